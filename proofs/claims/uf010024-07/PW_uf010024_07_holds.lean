import PyProof.Rows.All
import Wide.All
import OpenK.KLine
import Wide.FinOn
import PySem.Value
import OpenK.KCell
import OpenK.KMore
import KE.KRevSl
import KE.KSliceW
import KE.KSortTup
import KE.KDictSum
import KE.KDictOf
import PyProof.AttrMissHeap
import PyProof.DictDisplay
import KE.KIsNot
import OpenK.KWalk
import Open.Tree
import Open.Boot
import PySem.Challenge.RW_uf010024_07
set_option Elab.async false
set_option linter.all false
section
open PySem PySem.W PyProof.Rows PySem.W.Fast
set_option maxRecDepth 100000
namespace Mine
noncomputable def lgT (p : Program) (w : World) (m : Nat) (a : Option Value) (n : Nat) : SharedT → Thread → Option SharedT :=
  @Nat.rec (fun _ => _) (fun _ _ => none)
    (fun _ ih s t => bif through t then some s else bif tw6613529449190102663 m a t then (tw10156331382660048174 (tw11892475500146522536 tw14364793385576792824) p w s t).bind fun r => ih r.1 r.2 else none) n
theorem lgO {p : Program} {w : World} {m : Nat} {a : Option Value} : ∀ {n : Nat} {s s' : SharedT} {t : Thread}, lgT p w m a n s t = some s' → topRun treeTable p w m a n s.abs t = some s'.abs
  | 0, _, _, _, h => nomatch (h : none = some _)
  | n + 1, s, s', t, h => by
    have h : (bif through t then some s else bif stepOk m a t then (stepT (denote treeTable) p w s t).bind fun r => lgT p w m a n r.1 r.2 else none) = some s' := by
      rw [te6613529449190102663, te10156331382660048174, te11892475500146522536, te14364793385576792824]
      exact h
    unfold topRun
    cases e : through t with
    | true => rw [e] at h; cases h; rfl
    | false =>
      rw [e] at h
      cases b : stepOk m a t with
      | false => rw [b] at h; cases h
      | true =>
        rw [b] at h
        obtain ⟨r, c, h⟩ := Option.bind_eq_some_iff.mp h
        rw [stepT_spec c]
        exact lgO h
noncomputable def lbT (P : Params) (os : OsState) : SharedT := ⟨(boot_heap P).objs.toList.zipIdx.foldl (fun t o => t.ins o.2 o.1) .nil, (boot_heap P).objs.size, (boot_heap P).life, Array.mk [], boot_drawn, boot_toks, os⟩
theorem lbA (P : Params) (os : OsState) : (lbT P os).abs = ⟨boot_heap P, Array.mk [], boot_drawn, boot_toks, os⟩ := by kernel_rfl
theorem lbN (P : Params) : (boot_heap P).isNs mainGlobals = true := by kernel_rfl
noncomputable def leT (p : Program) (w : World) (N : Nat) (os : OsState) : Option Shared :=
  (lgT p w (boot_heap w.params).objs.size ((boot_heap w.params).nsMap mainGlobals "__annotations__") N (lbT w.params os) (topStub p)).bind fun s =>
    match staticsOk (importedModules p.main.body) (boot_heap w.params) s.abs.heap && namesBound p s.abs.heap && gensDone s.abs && laidKept (boot_heap w.params) s.abs.heap with
    | true => some s.abs
    | false => none
theorem leO {N : Nat} {α : Type} {Y : Shared → α} {y : α} (h : ∀ w os, (leT PySem.Challenge.pw_uf010024_07 w N os).map Y = some y) (hN : Nat.ble 600 N = true := by decide) (w : World) : (openEnds treeTable PySem.Challenge.pw_uf010024_07 w N).map Y = some y := by
  obtain ⟨z, e1, e2⟩ := Option.map_eq_some_iff.mp (boot_open (p := PySem.Challenge.pw_uf010024_07) (by rfl) hN (fun _ => by rfl) w)
  obtain ⟨s, hs, hy⟩ := Option.map_eq_some_iff.mp (h w z.os)
  obtain ⟨s', hs', g⟩ := Option.bind_eq_some_iff.mp hs
  have r := lgO hs'
  rw [lbA] at r
  unfold openEnds
  rw [e1.trans (congrArg (fun x => some (⟨x.1, x.2.1, x.2.2.1, x.2.2.2, z.os⟩ : Shared)) e2), Option.bind_some]
  unfold topFrom
  dsimp only
  rw [lbN, r]
  refine (congrArg (Option.map _) g).trans ?_
  rw [Option.map_some, hy]
end Mine
end
section
open PySem PySem.W PyProof.Rows
set_option Elab.async false
set_option maxRecDepth 100000
set_option maxHeartbeats 8000000
namespace Mine
noncomputable def znE : List Nat := (List.range 39).filter fun i => i != 0 && i != 6 && i != 11 && i != 16 && i != 22 && i != 26
noncomputable def q07 : Program := view PySem.Challenge.pw_uf010024_07 znE
theorem zmC : ∀ w, (openEnds treeTable PySem.Challenge.pw_uf010024_07 w 5166).map (fun s => openSeen q07 [] (importedModules PySem.Challenge.pw_uf010024_07.main.body) (fun s => xlAt q07 [] s && recOk (RowW.records PySem.Challenge.rw_uf010024_07.row.toRowW) s) true s) = some (openGood q07 []) := leO fun w os => by kernel_rfl
end Mine
end
section
namespace Mine
theorem zgz {α : Type} {a : α} {l : List α} : (a :: l)[0]? = some a := rfl
theorem zgs {α : Type} {a : α} {l : List α} {i : Nat} : (a :: l)[i + 1]? = l[i]? := rfl
theorem zss {α : Type} {a b : α} {l : List α} {i : Nat} : (a :: l).set (i + 1) b = a :: l.set i b := rfl
theorem zsz {α : Type} {a b : α} {l : List α} : (a :: l).set 0 b = b :: l := rfl
theorem zjs {α : Type} {o : Option α} : (some o).join = o := rfl
open PySem
theorem lift {G : Prop} (h : ∀ g : Prop, (G → g) → g) : G := h G id
theorem ob1 {G : Prop} {A1 : Sort _} {A2 : Sort _} {P1 : A1 → A2 → Prop} {P2 : A1 → A2 → Prop} {P3 : A1 → A2 → Prop} (h : ∃ x1 : A1, ∃ x2 : A2, P1 x1 x2 ∧ P2 x1 x2 ∧ P3 x1 x2) (g : ∀ x1, ∀ x2, P1 x1 x2 → P2 x1 x2 → P3 x1 x2 → G) : G := by obtain ⟨y1, ⟨y2, ⟨h1, ⟨h2, h3⟩⟩⟩⟩ := h; exact g y1 y2 h1 h2 h3
theorem ob2 {G : Prop} {A1 : Sort _} {P1 : A1 → Prop} {P2 : A1 → Prop} {P3 : A1 → Prop} (h : ∃ x1 : A1, P1 x1 ∧ P2 x1 ∧ P3 x1) (g : ∀ x1, P1 x1 → P2 x1 → P3 x1 → G) : G := by obtain ⟨y1, ⟨h1, ⟨h2, h3⟩⟩⟩ := h; exact g y1 h1 h2 h3
theorem ob3 {G : Prop} {A1 : Sort _} {A2 : Sort _} {A3 : Sort _} {P1 : Prop} {P2 : A1 → A2 → A3 → Prop} {P3 : A1 → A2 → A3 → Prop} (h : P1 ∧ (∃ x1 : A1, ∃ x2 : A2, ∃ x3 : A3, P2 x1 x2 x3 ∧ P3 x1 x2 x3)) (g : P1 → ∀ x1, ∀ x2, ∀ x3, P2 x1 x2 x3 → P3 x1 x2 x3 → G) : G := by obtain ⟨h1, ⟨y1, ⟨y2, ⟨y3, ⟨h2, h3⟩⟩⟩⟩⟩ := h; exact g h1 y1 y2 y3 h2 h3
theorem ob4 {G : Prop} {A1 : Sort _} {P1 : A1 → Prop} {P2 : A1 → Prop} {P3 : A1 → Prop} {P4 : A1 → Prop} (h : ∃ x1 : A1, P1 x1 ∧ P2 x1 ∧ P3 x1 ∧ P4 x1) (g : ∀ x1, P1 x1 → P2 x1 → P3 x1 → P4 x1 → G) : G := by obtain ⟨y1, ⟨h1, ⟨h2, ⟨h3, h4⟩⟩⟩⟩ := h; exact g y1 h1 h2 h3 h4
theorem ob5 {G : Prop} {A1 : Sort _} {A2 : Sort _} {P1 : Prop} {P2 : A1 → A2 → Prop} {P3 : A1 → A2 → Prop} {P4 : A1 → A2 → Prop} {P5 : A1 → A2 → Prop} {P6 : Prop} (h : P1 ∧ (∃ x1 : A1, ∃ x2 : A2, P2 x1 x2 ∧ P3 x1 x2 ∧ P4 x1 x2 ∧ P5 x1 x2) ∧ P6) (g : P1 → ∀ x1, ∀ x2, P2 x1 x2 → P3 x1 x2 → P4 x1 x2 → P5 x1 x2 → P6 → G) : G := by obtain ⟨h1, ⟨⟨y1, ⟨y2, ⟨h2, ⟨h3, ⟨h4, h5⟩⟩⟩⟩⟩, h6⟩⟩ := h; exact g h1 y1 y2 h2 h3 h4 h5 h6
theorem ob6 {G : Prop} {A1 : Sort _} {A2 : Sort _} {A3 : Sort _} {P1 : A1 → A2 → A3 → Prop} {P2 : A1 → A2 → A3 → Prop} {P3 : A1 → A2 → A3 → Prop} (h : ∃ x1 : A1, ∃ x2 : A2, ∃ x3 : A3, P1 x1 x2 x3 ∧ P2 x1 x2 x3 ∧ P3 x1 x2 x3) (g : ∀ x1, ∀ x2, ∀ x3, P1 x1 x2 x3 → P2 x1 x2 x3 → P3 x1 x2 x3 → G) : G := by obtain ⟨y1, ⟨y2, ⟨y3, ⟨h1, ⟨h2, h3⟩⟩⟩⟩⟩ := h; exact g y1 y2 y3 h1 h2 h3
theorem ob7 {G : Prop} {A1 : Sort _} {P1 : A1 → Prop} {P2 : A1 → Prop} (h : ∃ x1 : A1, P1 x1 ∧ P2 x1) (g : ∀ x1, P1 x1 → P2 x1 → G) : G := by obtain ⟨y1, ⟨h1, h2⟩⟩ := h; exact g y1 h1 h2
theorem ob8 {G : Prop} {A1 : Sort _} {A2 : Sort _} {A3 : Sort _} {A4 : Sort _} {P1 : A1 → A2 → A3 → A4 → Prop} {P2 : A1 → A2 → A3 → A4 → Prop} {P3 : A1 → A2 → A3 → A4 → Prop} (h : ∃ x1 : A1, ∃ x2 : A2, ∃ x3 : A3, ∃ x4 : A4, P1 x1 x2 x3 x4 ∧ P2 x1 x2 x3 x4 ∧ P3 x1 x2 x3 x4) (g : ∀ x1, ∀ x2, ∀ x3, ∀ x4, P1 x1 x2 x3 x4 → P2 x1 x2 x3 x4 → P3 x1 x2 x3 x4 → G) : G := by obtain ⟨y1, ⟨y2, ⟨y3, ⟨y4, ⟨h1, ⟨h2, h3⟩⟩⟩⟩⟩⟩ := h; exact g y1 y2 y3 y4 h1 h2 h3
theorem ob9 {G : Prop} {A1 : Sort _} {P1 : A1 → Prop} {P2 : Prop} {P3 : Prop} (h : (∃ x1 : A1, P1 x1) ∧ P2 ∧ P3) (g : ∀ x1, P1 x1 → P2 → P3 → G) : G := by obtain ⟨⟨y1, h1⟩, ⟨h2, h3⟩⟩ := h; exact g y1 h1 h2 h3
theorem ob10 {G : Prop} {A1 : Sort _} {A2 : Sort _} {P1 : A1 → A2 → Prop} {P2 : A1 → A2 → Prop} {P3 : Prop} (h : (∃ x1 : A1, ∃ x2 : A2, P1 x1 x2 ∧ P2 x1 x2) ∧ P3) (g : ∀ x1, ∀ x2, P1 x1 x2 → P2 x1 x2 → P3 → G) : G := by obtain ⟨⟨y1, ⟨y2, ⟨h1, h2⟩⟩⟩, h3⟩ := h; exact g y1 y2 h1 h2 h3
theorem ob11 {G : Prop} {A1 : Sort _} {A2 : Sort _} {A3 : Sort _} {P1 : A1 → A2 → A3 → Prop} {P2 : A1 → A2 → A3 → Prop} {P3 : A1 → A2 → A3 → Prop} {P4 : A1 → A2 → A3 → Prop} (h : ∃ x1 : A1, ∃ x2 : A2, ∃ x3 : A3, P1 x1 x2 x3 ∧ P2 x1 x2 x3 ∧ P3 x1 x2 x3 ∧ P4 x1 x2 x3) (g : ∀ x1, ∀ x2, ∀ x3, P1 x1 x2 x3 → P2 x1 x2 x3 → P3 x1 x2 x3 → P4 x1 x2 x3 → G) : G := by obtain ⟨y1, ⟨y2, ⟨y3, ⟨h1, ⟨h2, ⟨h3, h4⟩⟩⟩⟩⟩⟩ := h; exact g y1 y2 y3 h1 h2 h3 h4
theorem ob12 {G : Prop} {A1 : Sort _} {P1 : A1 → Prop} (h : ∃ x1 : A1, P1 x1) (g : ∀ x1, P1 x1 → G) : G := by obtain ⟨y1, h1⟩ := h; exact g y1 h1
theorem ob13 {G : Prop} {A1 : Sort _} {P1 : A1 → Prop} {P2 : Prop} (h : (∃ x1 : A1, P1 x1) ∧ P2) (g : ∀ x1, P1 x1 → P2 → G) : G := by obtain ⟨⟨y1, h1⟩, h2⟩ := h; exact g y1 h1 h2
theorem ob14 {G : Prop} {P1 : Prop} {P2 : Prop} (h : P1 ∧ P2) (g : P1 → P2 → G) : G := by obtain ⟨h1, h2⟩ := h; exact g h1 h2
theorem ob15 {G : Prop} {A1 : Sort _} {A2 : Sort _} {P1 : A1 → A2 → Prop} {P2 : A1 → A2 → Prop} {P3 : A1 → A2 → Prop} {P4 : A1 → A2 → Prop} (h : ∃ x1 : A1, ∃ x2 : A2, P1 x1 x2 ∧ P2 x1 x2 ∧ P3 x1 x2 ∧ P4 x1 x2) (g : ∀ x1, ∀ x2, P1 x1 x2 → P2 x1 x2 → P3 x1 x2 → P4 x1 x2 → G) : G := by obtain ⟨y1, ⟨y2, ⟨h1, ⟨h2, ⟨h3, h4⟩⟩⟩⟩⟩ := h; exact g y1 y2 h1 h2 h3 h4
theorem ob16 {G : Prop} {P1 : Prop} {P2 : Prop} {P3 : Prop} (h : P1 ∧ P2 ∧ P3) (g : P1 → P2 → P3 → G) : G := by obtain ⟨h1, ⟨h2, h3⟩⟩ := h; exact g h1 h2 h3
theorem ob17 {G : Prop} {A1 : Sort _} {A2 : Sort _} {P1 : A1 → A2 → Prop} {P2 : A1 → A2 → Prop} (h : ∃ x1 : A1, ∃ x2 : A2, P1 x1 x2 ∧ P2 x1 x2) (g : ∀ x1, ∀ x2, P1 x1 x2 → P2 x1 x2 → G) : G := by obtain ⟨y1, ⟨y2, ⟨h1, h2⟩⟩⟩ := h; exact g y1 y2 h1 h2
theorem ob18 {G : Prop} {A1 : Sort _} {A2 : Sort _} {P1 : A1 → A2 → Prop} (h : ∃ x1 : A1, ∃ x2 : A2, P1 x1 x2) (g : ∀ x1, ∀ x2, P1 x1 x2 → G) : G := by obtain ⟨y1, ⟨y2, h1⟩⟩ := h; exact g y1 y2 h1
theorem ob19 {G : Prop} {A1 : Sort _} {A2 : Sort _} {A3 : Sort _} {A4 : Sort _} {P1 : A1 → A2 → A3 → A4 → Prop} {P2 : A1 → A2 → A3 → A4 → Prop} (h : ∃ x1 : A1, ∃ x2 : A2, ∃ x3 : A3, ∃ x4 : A4, P1 x1 x2 x3 x4 ∧ P2 x1 x2 x3 x4) (g : ∀ x1, ∀ x2, ∀ x3, ∀ x4, P1 x1 x2 x3 x4 → P2 x1 x2 x3 x4 → G) : G := by obtain ⟨y1, ⟨y2, ⟨y3, ⟨y4, ⟨h1, h2⟩⟩⟩⟩⟩ := h; exact g y1 y2 y3 y4 h1 h2
theorem ob20 {G : Prop} {P1 : Prop} {P2 : Prop} {P3 : Prop} {P4 : Prop} {P5 : Prop} {P6 : Prop} (h : P1 ∧ P2 ∧ P3 ∧ P4 ∧ P5 ∧ P6) (g : P1 → P2 → P3 → P4 → P5 → P6 → G) : G := by obtain ⟨h1, ⟨h2, ⟨h3, ⟨h4, ⟨h5, h6⟩⟩⟩⟩⟩ := h; exact g h1 h2 h3 h4 h5 h6
theorem ob21 {G : Prop} {A1 : Sort _} {A2 : Sort _} {A3 : Sort _} {P1 : A1 → A2 → A3 → Prop} {P2 : A1 → A2 → A3 → Prop} {P3 : A1 → A2 → A3 → Prop} {P4 : A1 → A2 → A3 → Prop} {P5 : A1 → A2 → A3 → Prop} (h : ∃ x1 : A1, ∃ x2 : A2, ∃ x3 : A3, P1 x1 x2 x3 ∧ P2 x1 x2 x3 ∧ P3 x1 x2 x3 ∧ P4 x1 x2 x3 ∧ P5 x1 x2 x3) (g : ∀ x1, ∀ x2, ∀ x3, P1 x1 x2 x3 → P2 x1 x2 x3 → P3 x1 x2 x3 → P4 x1 x2 x3 → P5 x1 x2 x3 → G) : G := by obtain ⟨y1, ⟨y2, ⟨y3, ⟨h1, ⟨h2, ⟨h3, ⟨h4, h5⟩⟩⟩⟩⟩⟩⟩ := h; exact g y1 y2 y3 h1 h2 h3 h4 h5
theorem ob22 {G : Prop} {A1 : Sort _} {P1 : A1 → Prop} {P2 : A1 → Prop} {P3 : A1 → Prop} {P4 : A1 → Prop} (h : ∃ x1 : A1, P1 x1 ∧ (P2 x1 ∧ P3 x1) ∧ P4 x1) (g : ∀ x1, P1 x1 → P2 x1 → P3 x1 → P4 x1 → G) : G := by obtain ⟨y1, ⟨h1, ⟨⟨h2, h3⟩, h4⟩⟩⟩ := h; exact g y1 h1 h2 h3 h4
theorem ob23 {G : Prop} {P1 : Prop} {P2 : Prop} {P3 : Prop} {P4 : Prop} (h : (P1 ∧ P2 ∧ P3) ∧ P4) (g : P1 → P2 → P3 → P4 → G) : G := by obtain ⟨⟨h1, ⟨h2, h3⟩⟩, h4⟩ := h; exact g h1 h2 h3 h4
theorem ob24 {G : Prop} {A1 : Sort _} {P1 : A1 → Prop} {P2 : A1 → Prop} {P3 : A1 → Prop} (h : ∃ x1 : A1, (P1 x1 ∧ P2 x1) ∧ P3 x1) (g : ∀ x1, P1 x1 → P2 x1 → P3 x1 → G) : G := by obtain ⟨y1, ⟨⟨h1, h2⟩, h3⟩⟩ := h; exact g y1 h1 h2 h3
theorem ob25 {G : Prop} {A1 : Sort _} {P1 : A1 → Prop} {P2 : A1 → Prop} {P3 : A1 → Prop} {P4 : A1 → Prop} (h : ∃ x1 : A1, (P1 x1 ∧ P2 x1 ∧ P3 x1) ∧ P4 x1) (g : ∀ x1, P1 x1 → P2 x1 → P3 x1 → P4 x1 → G) : G := by obtain ⟨y1, ⟨⟨h1, ⟨h2, h3⟩⟩, h4⟩⟩ := h; exact g y1 h1 h2 h3 h4
theorem ob26 {G : Prop} {P1 : Prop} {P2 : Prop} {P3 : Prop} {P4 : Prop} {P5 : Prop} (h : (P1 ∧ P2 ∧ P3 ∧ P4) ∧ P5) (g : P1 → P2 → P3 → P4 → P5 → G) : G := by obtain ⟨⟨h1, ⟨h2, ⟨h3, h4⟩⟩⟩, h5⟩ := h; exact g h1 h2 h3 h4 h5
theorem ob27 {G : Prop} {P1 : Prop} {P2 : Prop} {P3 : Prop} {P4 : Prop} {P5 : Prop} {P6 : Prop} {P7 : Prop} (h : (P1 ∧ P2 ∧ P3 ∧ P4) ∧ P5 ∧ P6 ∧ P7) (g : P1 → P2 → P3 → P4 → P5 → P6 → P7 → G) : G := by obtain ⟨⟨h1, ⟨h2, ⟨h3, h4⟩⟩⟩, ⟨h5, ⟨h6, h7⟩⟩⟩ := h; exact g h1 h2 h3 h4 h5 h6 h7
theorem ob28 {G : Prop} {A1 : Sort _} {P1 : A1 → Prop} {P2 : A1 → Prop} {P3 : A1 → Prop} {P4 : Prop} {P5 : Prop} {P6 : Prop} (h : (((∃ x1 : A1, P1 x1 ∧ P2 x1 ∧ P3 x1) ∧ P4) ∧ P5) ∧ P6) (g : ∀ x1, P1 x1 → P2 x1 → P3 x1 → P4 → P5 → P6 → G) : G := by obtain ⟨⟨⟨⟨y1, ⟨h1, ⟨h2, h3⟩⟩⟩, h4⟩, h5⟩, h6⟩ := h; exact g y1 h1 h2 h3 h4 h5 h6
theorem ob29 {G : Prop} {A1 : Sort _} {P1 : A1 → Prop} {P2 : A1 → Prop} {P3 : A1 → Prop} {P4 : Prop} (h : (∃ x1 : A1, P1 x1 ∧ P2 x1 ∧ P3 x1) ∧ P4) (g : ∀ x1, P1 x1 → P2 x1 → P3 x1 → P4 → G) : G := by obtain ⟨⟨y1, ⟨h1, ⟨h2, h3⟩⟩⟩, h4⟩ := h; exact g y1 h1 h2 h3 h4
theorem ob30 {G : Prop} {A1 : Sort _} {P1 : A1 → Prop} {P2 : A1 → Prop} {P3 : A1 → Prop} {P4 : A1 → Prop} {P5 : A1 → Prop} (h : ∃ x1 : A1, P1 x1 ∧ P2 x1 ∧ P3 x1 ∧ P4 x1 ∧ P5 x1) (g : ∀ x1, P1 x1 → P2 x1 → P3 x1 → P4 x1 → P5 x1 → G) : G := by obtain ⟨y1, ⟨h1, ⟨h2, ⟨h3, ⟨h4, h5⟩⟩⟩⟩⟩ := h; exact g y1 h1 h2 h3 h4 h5
theorem ob31 {G : Prop} {P1 : Prop} {P2 : Prop} {P3 : Prop} (h : (P1 ∧ P2) ∧ P3) (g : P1 → P2 → P3 → G) : G := by obtain ⟨⟨h1, h2⟩, h3⟩ := h; exact g h1 h2 h3
theorem ob32 {G : Prop} {P1 : Prop} {P2 : Prop} {P3 : Prop} {P4 : Prop} {P5 : Prop} (h : (((P1 ∧ P2) ∧ P3) ∧ P4) ∧ P5) (g : P1 → P2 → P3 → P4 → P5 → G) : G := by obtain ⟨⟨⟨⟨h1, h2⟩, h3⟩, h4⟩, h5⟩ := h; exact g h1 h2 h3 h4 h5
theorem ob33 {G : Prop} {A1 : Sort _} {A2 : Sort _} {P1 : Prop} {P2 : A1 → A2 → Prop} {P3 : A1 → A2 → Prop} (h : P1 ∧ (∃ x1 : A1, ∃ x2 : A2, P2 x1 x2 ∧ P3 x1 x2)) (g : P1 → ∀ x1, ∀ x2, P2 x1 x2 → P3 x1 x2 → G) : G := by obtain ⟨h1, ⟨y1, ⟨y2, ⟨h2, h3⟩⟩⟩⟩ := h; exact g h1 y1 y2 h2 h3
theorem ob34 {G : Prop} {P1 : Prop} {P2 : Prop} {P3 : Prop} {P4 : Prop} {P5 : Prop} {P6 : Prop} (h : ((((P1 ∧ P2) ∧ P3) ∧ P4) ∧ P5) ∧ P6) (g : P1 → P2 → P3 → P4 → P5 → P6 → G) : G := by obtain ⟨⟨⟨⟨⟨h1, h2⟩, h3⟩, h4⟩, h5⟩, h6⟩ := h; exact g h1 h2 h3 h4 h5 h6
theorem ob35 {G : Prop} {A1 : Sort _} {A2 : Sort _} {P1 : Prop} {P2 : Prop} {P3 : Prop} {P4 : A1 → A2 → Prop} {P5 : A1 → A2 → Prop} (h : P1 ∧ P2 ∧ P3 ∧ (∃ x1 : A1, ∃ x2 : A2, P4 x1 x2 ∧ P5 x1 x2)) (g : P1 → P2 → P3 → ∀ x1, ∀ x2, P4 x1 x2 → P5 x1 x2 → G) : G := by obtain ⟨h1, ⟨h2, ⟨h3, ⟨y1, ⟨y2, ⟨h4, h5⟩⟩⟩⟩⟩⟩ := h; exact g h1 h2 h3 y1 y2 h4 h5
theorem ob36 {G : Prop} {A1 : Sort _} {A2 : Sort _} {P1 : A1 → A2 → Prop} {P2 : A1 → A2 → Prop} {P3 : A1 → A2 → Prop} {P4 : A1 → A2 → Prop} (h : ∃ x1 : A1, ∃ x2 : A2, (P1 x1 x2 ∧ P2 x1 x2) ∧ P3 x1 x2 ∧ P4 x1 x2) (g : ∀ x1, ∀ x2, P1 x1 x2 → P2 x1 x2 → P3 x1 x2 → P4 x1 x2 → G) : G := by obtain ⟨y1, ⟨y2, ⟨⟨h1, h2⟩, ⟨h3, h4⟩⟩⟩⟩ := h; exact g y1 y2 h1 h2 h3 h4
theorem ob37 {G : Prop} {A1 : Sort _} {P1 : A1 → Prop} {P2 : A1 → Prop} {P3 : A1 → Prop} {P4 : A1 → Prop} {P5 : A1 → Prop} {P6 : A1 → Prop} (h : ∃ x1 : A1, P1 x1 ∧ (P2 x1 ∧ P3 x1 ∧ P4 x1 ∧ P5 x1) ∧ P6 x1) (g : ∀ x1, P1 x1 → P2 x1 → P3 x1 → P4 x1 → P5 x1 → P6 x1 → G) : G := by obtain ⟨y1, ⟨h1, ⟨⟨h2, ⟨h3, ⟨h4, h5⟩⟩⟩, h6⟩⟩⟩ := h; exact g y1 h1 h2 h3 h4 h5 h6
theorem ob38 {G : Prop} {P1 : Prop} {P2 : Prop} {P3 : Prop} {P4 : Prop} (h : ((P1 ∧ P2) ∧ P3) ∧ P4) (g : P1 → P2 → P3 → P4 → G) : G := by obtain ⟨⟨⟨h1, h2⟩, h3⟩, h4⟩ := h; exact g h1 h2 h3 h4
theorem ob39 {G : Prop} {A1 : Sort _} {P1 : A1 → Prop} {P2 : A1 → Prop} {P3 : A1 → Prop} {P4 : A1 → Prop} {P5 : A1 → Prop} {P6 : A1 → Prop} {P7 : A1 → Prop} {P8 : A1 → Prop} (h : ∃ x1 : A1, P1 x1 ∧ (P2 x1 ∧ P3 x1 ∧ P4 x1 ∧ P5 x1 ∧ P6 x1 ∧ P7 x1) ∧ P8 x1) (g : ∀ x1, P1 x1 → P2 x1 → P3 x1 → P4 x1 → P5 x1 → P6 x1 → P7 x1 → P8 x1 → G) : G := by obtain ⟨y1, ⟨h1, ⟨⟨h2, ⟨h3, ⟨h4, ⟨h5, ⟨h6, h7⟩⟩⟩⟩⟩, h8⟩⟩⟩ := h; exact g y1 h1 h2 h3 h4 h5 h6 h7 h8
theorem ob40 {G : Prop} {A1 : Sort _} {A2 : Sort _} {A3 : Sort _} {A4 : Sort _} {P1 : A1 → A2 → A3 → A4 → Prop} {P2 : A1 → A2 → A3 → A4 → Prop} {P3 : A1 → A2 → A3 → A4 → Prop} {P4 : A1 → A2 → A3 → A4 → Prop} {P5 : A1 → A2 → A3 → A4 → Prop} (h : ∃ x1 : A1, ∃ x2 : A2, ∃ x3 : A3, ∃ x4 : A4, P1 x1 x2 x3 x4 ∧ P2 x1 x2 x3 x4 ∧ P3 x1 x2 x3 x4 ∧ P4 x1 x2 x3 x4 ∧ P5 x1 x2 x3 x4) (g : ∀ x1, ∀ x2, ∀ x3, ∀ x4, P1 x1 x2 x3 x4 → P2 x1 x2 x3 x4 → P3 x1 x2 x3 x4 → P4 x1 x2 x3 x4 → P5 x1 x2 x3 x4 → G) : G := by obtain ⟨y1, ⟨y2, ⟨y3, ⟨y4, ⟨h1, ⟨h2, ⟨h3, ⟨h4, h5⟩⟩⟩⟩⟩⟩⟩⟩ := h; exact g y1 y2 y3 y4 h1 h2 h3 h4 h5
theorem ob41 {G : Prop} {P1 : Prop} {P2 : Prop} {P3 : Prop} {P4 : Prop} {P5 : Prop} {P6 : Prop} {P7 : Prop} (h : (((((P1 ∧ P2) ∧ P3) ∧ P4) ∧ P5) ∧ P6) ∧ P7) (g : P1 → P2 → P3 → P4 → P5 → P6 → P7 → G) : G := by obtain ⟨⟨⟨⟨⟨⟨h1, h2⟩, h3⟩, h4⟩, h5⟩, h6⟩, h7⟩ := h; exact g h1 h2 h3 h4 h5 h6 h7
theorem ob42 {G : Prop} {A1 : Sort _} {A2 : Sort _} {A3 : Sort _} {A4 : Sort _} {A5 : Sort _} {A6 : Sort _} {A7 : Sort _} {P1 : A1 → A2 → A3 → A4 → A5 → A6 → A7 → Prop} {P2 : A1 → A2 → A3 → A4 → A5 → A6 → A7 → Prop} {P3 : A1 → A2 → A3 → A4 → A5 → A6 → A7 → Prop} {P4 : A1 → A2 → A3 → A4 → A5 → A6 → A7 → Prop} {P5 : A1 → A2 → A3 → A4 → A5 → A6 → A7 → Prop} {P6 : A1 → A2 → A3 → A4 → A5 → A6 → A7 → Prop} {P7 : A1 → A2 → A3 → A4 → A5 → A6 → A7 → Prop} (h : ∃ x1 : A1, ∃ x2 : A2, ∃ x3 : A3, ∃ x4 : A4, ∃ x5 : A5, ∃ x6 : A6, ∃ x7 : A7, P1 x1 x2 x3 x4 x5 x6 x7 ∧ P2 x1 x2 x3 x4 x5 x6 x7 ∧ P3 x1 x2 x3 x4 x5 x6 x7 ∧ P4 x1 x2 x3 x4 x5 x6 x7 ∧ P5 x1 x2 x3 x4 x5 x6 x7 ∧ P6 x1 x2 x3 x4 x5 x6 x7 ∧ P7 x1 x2 x3 x4 x5 x6 x7) (g : ∀ x1, ∀ x2, ∀ x3, ∀ x4, ∀ x5, ∀ x6, ∀ x7, P1 x1 x2 x3 x4 x5 x6 x7 → P2 x1 x2 x3 x4 x5 x6 x7 → P3 x1 x2 x3 x4 x5 x6 x7 → P4 x1 x2 x3 x4 x5 x6 x7 → P5 x1 x2 x3 x4 x5 x6 x7 → P6 x1 x2 x3 x4 x5 x6 x7 → P7 x1 x2 x3 x4 x5 x6 x7 → G) : G := by obtain ⟨y1, ⟨y2, ⟨y3, ⟨y4, ⟨y5, ⟨y6, ⟨y7, ⟨h1, ⟨h2, ⟨h3, ⟨h4, ⟨h5, ⟨h6, h7⟩⟩⟩⟩⟩⟩⟩⟩⟩⟩⟩⟩⟩ := h; exact g y1 y2 y3 y4 y5 y6 y7 h1 h2 h3 h4 h5 h6 h7
theorem ob43 {G : Prop} {A1 : Sort _} {A2 : Sort _} {A3 : Sort _} {A4 : Sort _} {A5 : Sort _} {P1 : A1 → Prop} {P2 : A1 → Prop} {P3 : A1 → A2 → A3 → A4 → A5 → Prop} {P4 : A1 → A2 → A3 → A4 → A5 → Prop} {P5 : A1 → A2 → A3 → A4 → A5 → Prop} {P6 : A1 → Prop} {P7 : A1 → Prop} {P8 : A1 → Prop} (h : ∃ x1 : A1, P1 x1 ∧ P2 x1 ∧ (∃ x2 : A2, ∃ x3 : A3, ∃ x4 : A4, ∃ x5 : A5, P3 x1 x2 x3 x4 x5 ∧ P4 x1 x2 x3 x4 x5 ∧ P5 x1 x2 x3 x4 x5) ∧ P6 x1 ∧ P7 x1 ∧ P8 x1) (g : ∀ x1, P1 x1 → P2 x1 → ∀ x2, ∀ x3, ∀ x4, ∀ x5, P3 x1 x2 x3 x4 x5 → P4 x1 x2 x3 x4 x5 → P5 x1 x2 x3 x4 x5 → P6 x1 → P7 x1 → P8 x1 → G) : G := by obtain ⟨y1, ⟨h1, ⟨h2, ⟨⟨y2, ⟨y3, ⟨y4, ⟨y5, ⟨h3, ⟨h4, h5⟩⟩⟩⟩⟩⟩, ⟨h6, ⟨h7, h8⟩⟩⟩⟩⟩⟩ := h; exact g y1 h1 h2 y2 y3 y4 y5 h3 h4 h5 h6 h7 h8
theorem ob44 {G : Prop} {A1 : Sort _} {A2 : Sort _} {A3 : Sort _} {A4 : Sort _} {A5 : Sort _} {A6 : Sort _} {P1 : A1 → A2 → A3 → A4 → A5 → A6 → Prop} (h : ∃ x1 : A1, ∃ x2 : A2, ∃ x3 : A3, ∃ x4 : A4, ∃ x5 : A5, ∃ x6 : A6, P1 x1 x2 x3 x4 x5 x6) (g : ∀ x1, ∀ x2, ∀ x3, ∀ x4, ∀ x5, ∀ x6, P1 x1 x2 x3 x4 x5 x6 → G) : G := by obtain ⟨y1, ⟨y2, ⟨y3, ⟨y4, ⟨y5, ⟨y6, h1⟩⟩⟩⟩⟩⟩ := h; exact g y1 y2 y3 y4 y5 y6 h1
theorem ob45 {G : Prop} {A1 : Sort _} {A2 : Sort _} {A3 : Sort _} {A4 : Sort _} {A5 : Sort _} {P1 : A1 → A2 → A3 → A4 → A5 → Prop} (h : ∃ x1 : A1, ∃ x2 : A2, ∃ x3 : A3, ∃ x4 : A4, ∃ x5 : A5, P1 x1 x2 x3 x4 x5) (g : ∀ x1, ∀ x2, ∀ x3, ∀ x4, ∀ x5, P1 x1 x2 x3 x4 x5 → G) : G := by obtain ⟨y1, ⟨y2, ⟨y3, ⟨y4, ⟨y5, h1⟩⟩⟩⟩⟩ := h; exact g y1 y2 y3 y4 y5 h1
theorem ob46 {G : Prop} {A1 : Sort _} {A2 : Sort _} {P1 : A1 → Prop} {P2 : A1 → Prop} {P3 : A1 → A2 → Prop} {P4 : A1 → Prop} {P5 : A1 → Prop} {P6 : A1 → Prop} (h : ∃ x1 : A1, P1 x1 ∧ P2 x1 ∧ (∃ x2 : A2, P3 x1 x2) ∧ P4 x1 ∧ P5 x1 ∧ P6 x1) (g : ∀ x1, P1 x1 → P2 x1 → ∀ x2, P3 x1 x2 → P4 x1 → P5 x1 → P6 x1 → G) : G := by obtain ⟨y1, ⟨h1, ⟨h2, ⟨⟨y2, h3⟩, ⟨h4, ⟨h5, h6⟩⟩⟩⟩⟩⟩ := h; exact g y1 h1 h2 y2 h3 h4 h5 h6
theorem ob47 {G : Prop} {A1 : Sort _} {A2 : Sort _} {A3 : Sort _} {P1 : A1 → A2 → A3 → Prop} {P2 : A1 → A2 → A3 → Prop} {P3 : A1 → A2 → A3 → Prop} {P4 : A1 → A2 → A3 → Prop} {P5 : A1 → A2 → A3 → Prop} {P6 : A1 → A2 → A3 → Prop} {P7 : A1 → A2 → A3 → Prop} (h : ∃ x1 : A1, ∃ x2 : A2, ∃ x3 : A3, P1 x1 x2 x3 ∧ P2 x1 x2 x3 ∧ P3 x1 x2 x3 ∧ P4 x1 x2 x3 ∧ P5 x1 x2 x3 ∧ P6 x1 x2 x3 ∧ P7 x1 x2 x3) (g : ∀ x1, ∀ x2, ∀ x3, P1 x1 x2 x3 → P2 x1 x2 x3 → P3 x1 x2 x3 → P4 x1 x2 x3 → P5 x1 x2 x3 → P6 x1 x2 x3 → P7 x1 x2 x3 → G) : G := by obtain ⟨y1, ⟨y2, ⟨y3, ⟨h1, ⟨h2, ⟨h3, ⟨h4, ⟨h5, ⟨h6, h7⟩⟩⟩⟩⟩⟩⟩⟩⟩ := h; exact g y1 y2 y3 h1 h2 h3 h4 h5 h6 h7
theorem ob48 {G : Prop} {A1 : Sort _} {A2 : Sort _} {A3 : Sort _} {P1 : A1 → A2 → A3 → Prop} {P2 : A1 → A2 → A3 → Prop} {P3 : A1 → A2 → A3 → Prop} {P4 : A1 → A2 → A3 → Prop} {P5 : A1 → A2 → A3 → Prop} {P6 : A1 → A2 → A3 → Prop} {P7 : A1 → A2 → A3 → Prop} {P8 : A1 → A2 → A3 → Prop} {P9 : A1 → A2 → A3 → Prop} {P10 : A1 → A2 → A3 → Prop} {P11 : A1 → A2 → A3 → Prop} {P12 : A1 → A2 → A3 → Prop} {P13 : A1 → A2 → A3 → Prop} {P14 : A1 → A2 → A3 → Prop} (h : ∃ x1 : A1, ∃ x2 : A2, ∃ x3 : A3, P1 x1 x2 x3 ∧ P2 x1 x2 x3 ∧ P3 x1 x2 x3 ∧ P4 x1 x2 x3 ∧ P5 x1 x2 x3 ∧ P6 x1 x2 x3 ∧ P7 x1 x2 x3 ∧ P8 x1 x2 x3 ∧ P9 x1 x2 x3 ∧ P10 x1 x2 x3 ∧ P11 x1 x2 x3 ∧ P12 x1 x2 x3 ∧ P13 x1 x2 x3 ∧ P14 x1 x2 x3) (g : ∀ x1, ∀ x2, ∀ x3, P1 x1 x2 x3 → P2 x1 x2 x3 → P3 x1 x2 x3 → P4 x1 x2 x3 → P5 x1 x2 x3 → P6 x1 x2 x3 → P7 x1 x2 x3 → P8 x1 x2 x3 → P9 x1 x2 x3 → P10 x1 x2 x3 → P11 x1 x2 x3 → P12 x1 x2 x3 → P13 x1 x2 x3 → P14 x1 x2 x3 → G) : G := by obtain ⟨y1, ⟨y2, ⟨y3, ⟨h1, ⟨h2, ⟨h3, ⟨h4, ⟨h5, ⟨h6, ⟨h7, ⟨h8, ⟨h9, ⟨h10, ⟨h11, ⟨h12, ⟨h13, h14⟩⟩⟩⟩⟩⟩⟩⟩⟩⟩⟩⟩⟩⟩⟩⟩ := h; exact g y1 y2 y3 h1 h2 h3 h4 h5 h6 h7 h8 h9 h10 h11 h12 h13 h14
theorem ob49 {G : Prop} {A1 : Sort _} {A2 : Sort _} {A3 : Sort _} {P1 : A1 → A2 → A3 → Prop} {P2 : A1 → A2 → A3 → Prop} (h : ∃ x1 : A1, ∃ x2 : A2, ∃ x3 : A3, P1 x1 x2 x3 ∧ P2 x1 x2 x3) (g : ∀ x1, ∀ x2, ∀ x3, P1 x1 x2 x3 → P2 x1 x2 x3 → G) : G := by obtain ⟨y1, ⟨y2, ⟨y3, ⟨h1, h2⟩⟩⟩⟩ := h; exact g y1 y2 y3 h1 h2
theorem ob50 {G : Prop} {A1 : Sort _} {P1 : A1 → Prop} {P2 : A1 → Prop} {P3 : A1 → Prop} {P4 : A1 → Prop} {P5 : A1 → Prop} {P6 : A1 → Prop} (h : ∃ x1 : A1, P1 x1 ∧ P2 x1 ∧ P3 x1 ∧ P4 x1 ∧ P5 x1 ∧ P6 x1) (g : ∀ x1, P1 x1 → P2 x1 → P3 x1 → P4 x1 → P5 x1 → P6 x1 → G) : G := by obtain ⟨y1, ⟨h1, ⟨h2, ⟨h3, ⟨h4, ⟨h5, h6⟩⟩⟩⟩⟩⟩ := h; exact g y1 h1 h2 h3 h4 h5 h6
theorem ob51 {G : Prop} {P1 : Prop} {P2 : Prop} {P3 : Prop} {P4 : Prop} {P5 : Prop} {P6 : Prop} {P7 : Prop} {P8 : Prop} {P9 : Prop} {P10 : Prop} {P11 : Prop} {P12 : Prop} {P13 : Prop} {P14 : Prop} (h : ((((((((((((P1 ∧ P2) ∧ P3) ∧ P4) ∧ P5) ∧ P6) ∧ P7) ∧ P8) ∧ P9) ∧ P10) ∧ P11) ∧ P12) ∧ P13) ∧ P14) (g : P1 → P2 → P3 → P4 → P5 → P6 → P7 → P8 → P9 → P10 → P11 → P12 → P13 → P14 → G) : G := by obtain ⟨⟨⟨⟨⟨⟨⟨⟨⟨⟨⟨⟨⟨h1, h2⟩, h3⟩, h4⟩, h5⟩, h6⟩, h7⟩, h8⟩, h9⟩, h10⟩, h11⟩, h12⟩, h13⟩, h14⟩ := h; exact g h1 h2 h3 h4 h5 h6 h7 h8 h9 h10 h11 h12 h13 h14
theorem ob52 {G : Prop} {A1 : Sort _} {A2 : Sort _} {A3 : Sort _} {A4 : Sort _} {A5 : Sort _} {P1 : A1 → Prop} {P2 : A1 → Prop} {P3 : A1 → Prop} {P4 : A1 → Prop} {P5 : A1 → A2 → A3 → A4 → A5 → Prop} (h : ∃ x1 : A1, P1 x1 ∧ P2 x1 ∧ P3 x1 ∧ P4 x1 ∧ (∃ x2 : A2, ∃ x3 : A3, ∃ x4 : A4, ∃ x5 : A5, P5 x1 x2 x3 x4 x5)) (g : ∀ x1, P1 x1 → P2 x1 → P3 x1 → P4 x1 → ∀ x2, ∀ x3, ∀ x4, ∀ x5, P5 x1 x2 x3 x4 x5 → G) : G := by obtain ⟨y1, ⟨h1, ⟨h2, ⟨h3, ⟨h4, ⟨y2, ⟨y3, ⟨y4, ⟨y5, h5⟩⟩⟩⟩⟩⟩⟩⟩⟩ := h; exact g y1 h1 h2 h3 h4 y2 y3 y4 y5 h5
theorem ob53 {G : Prop} {A1 : Sort _} {A2 : Sort _} {A3 : Sort _} {A4 : Sort _} {P1 : A1 → Prop} {P2 : A1 → Prop} {P3 : A1 → Prop} {P4 : A1 → Prop} {P5 : A1 → A2 → A3 → A4 → Prop} (h : ∃ x1 : A1, P1 x1 ∧ P2 x1 ∧ P3 x1 ∧ P4 x1 ∧ (∃ x2 : A2, ∃ x3 : A3, ∃ x4 : A4, P5 x1 x2 x3 x4)) (g : ∀ x1, P1 x1 → P2 x1 → P3 x1 → P4 x1 → ∀ x2, ∀ x3, ∀ x4, P5 x1 x2 x3 x4 → G) : G := by obtain ⟨y1, ⟨h1, ⟨h2, ⟨h3, ⟨h4, ⟨y2, ⟨y3, ⟨y4, h5⟩⟩⟩⟩⟩⟩⟩⟩ := h; exact g y1 h1 h2 h3 h4 y2 y3 y4 h5
theorem ob54 {G : Prop} {P1 : Prop} {P2 : Prop} {P3 : Prop} {P4 : Prop} (h : P1 ∧ P2 ∧ P3 ∧ P4) (g : P1 → P2 → P3 → P4 → G) : G := by obtain ⟨h1, ⟨h2, ⟨h3, h4⟩⟩⟩ := h; exact g h1 h2 h3 h4
theorem ob55 {G : Prop} {A1 : Sort _} {A2 : Sort _} {A3 : Sort _} {P1 : Prop} {P2 : Prop} {P3 : Prop} {P4 : A1 → A2 → A3 → Prop} (h : P1 ∧ P2 ∧ P3 ∧ (∃ x1 : A1, ∃ x2 : A2, ∃ x3 : A3, P4 x1 x2 x3)) (g : P1 → P2 → P3 → ∀ x1, ∀ x2, ∀ x3, P4 x1 x2 x3 → G) : G := by obtain ⟨h1, ⟨h2, ⟨h3, ⟨y1, ⟨y2, ⟨y3, h4⟩⟩⟩⟩⟩⟩ := h; exact g h1 h2 h3 y1 y2 y3 h4
theorem ob56 {G : Prop} {A1 : Sort _} {A2 : Sort _} {P1 : Prop} {P2 : Prop} {P3 : A1 → A2 → Prop} (h : P1 ∧ P2 ∧ (∃ x1 : A1, ∃ x2 : A2, P3 x1 x2)) (g : P1 → P2 → ∀ x1, ∀ x2, P3 x1 x2 → G) : G := by obtain ⟨h1, ⟨h2, ⟨y1, ⟨y2, h3⟩⟩⟩⟩ := h; exact g h1 h2 y1 y2 h3
theorem ob57 {G : Prop} {A1 : Sort _} {P1 : Prop} {P2 : A1 → Prop} (h : P1 ∧ (∃ x1 : A1, P2 x1)) (g : P1 → ∀ x1, P2 x1 → G) : G := by obtain ⟨h1, ⟨y1, h2⟩⟩ := h; exact g h1 y1 h2
theorem ob58 {G : Prop} {A1 : Sort _} {P1 : Prop} {P2 : Prop} {P3 : A1 → Prop} (h : P1 ∧ P2 ∧ (∃ x1 : A1, P3 x1)) (g : P1 → P2 → ∀ x1, P3 x1 → G) : G := by obtain ⟨h1, ⟨h2, ⟨y1, h3⟩⟩⟩ := h; exact g h1 h2 y1 h3
theorem ob59 {G : Prop} {A1 : Sort _} {A2 : Sort _} {P1 : A1 → A2 → Prop} {P2 : A1 → A2 → Prop} {P3 : A1 → A2 → Prop} {P4 : A1 → A2 → Prop} {P5 : A1 → A2 → Prop} (h : ∃ x1 : A1, ∃ x2 : A2, P1 x1 x2 ∧ P2 x1 x2 ∧ P3 x1 x2 ∧ P4 x1 x2 ∧ P5 x1 x2) (g : ∀ x1, ∀ x2, P1 x1 x2 → P2 x1 x2 → P3 x1 x2 → P4 x1 x2 → P5 x1 x2 → G) : G := by obtain ⟨y1, ⟨y2, ⟨h1, ⟨h2, ⟨h3, ⟨h4, h5⟩⟩⟩⟩⟩⟩ := h; exact g y1 y2 h1 h2 h3 h4 h5
theorem ob60 {G : Prop} {A1 : Sort _} {A2 : Sort _} {A3 : Sort _} {A4 : Sort _} {P1 : A1 → A2 → A3 → A4 → Prop} {P2 : A1 → A2 → A3 → A4 → Prop} {P3 : A1 → A2 → A3 → A4 → Prop} {P4 : A1 → A2 → A3 → A4 → Prop} {P5 : A1 → A2 → A3 → A4 → Prop} {P6 : A1 → A2 → A3 → A4 → Prop} (h : ∃ x1 : A1, ∃ x2 : A2, ∃ x3 : A3, ∃ x4 : A4, P1 x1 x2 x3 x4 ∧ P2 x1 x2 x3 x4 ∧ P3 x1 x2 x3 x4 ∧ P4 x1 x2 x3 x4 ∧ P5 x1 x2 x3 x4 ∧ P6 x1 x2 x3 x4) (g : ∀ x1, ∀ x2, ∀ x3, ∀ x4, P1 x1 x2 x3 x4 → P2 x1 x2 x3 x4 → P3 x1 x2 x3 x4 → P4 x1 x2 x3 x4 → P5 x1 x2 x3 x4 → P6 x1 x2 x3 x4 → G) : G := by obtain ⟨y1, ⟨y2, ⟨y3, ⟨y4, ⟨h1, ⟨h2, ⟨h3, ⟨h4, ⟨h5, h6⟩⟩⟩⟩⟩⟩⟩⟩⟩ := h; exact g y1 y2 y3 y4 h1 h2 h3 h4 h5 h6
theorem ob61 {G : Prop} {A1 : Sort _} {A2 : Sort _} {A3 : Sort _} {A4 : Sort _} {A5 : Sort _} {A6 : Sort _} {P1 : A1 → A2 → A3 → A4 → A5 → A6 → Prop} {P2 : A1 → A2 → A3 → A4 → A5 → A6 → Prop} {P3 : A1 → A2 → A3 → A4 → A5 → A6 → Prop} {P4 : A1 → A2 → A3 → A4 → A5 → A6 → Prop} {P5 : A1 → A2 → A3 → A4 → A5 → A6 → Prop} {P6 : A1 → A2 → A3 → A4 → A5 → A6 → Prop} (h : ∃ x1 : A1, ∃ x2 : A2, ∃ x3 : A3, ∃ x4 : A4, ∃ x5 : A5, ∃ x6 : A6, P1 x1 x2 x3 x4 x5 x6 ∧ P2 x1 x2 x3 x4 x5 x6 ∧ P3 x1 x2 x3 x4 x5 x6 ∧ P4 x1 x2 x3 x4 x5 x6 ∧ P5 x1 x2 x3 x4 x5 x6 ∧ P6 x1 x2 x3 x4 x5 x6) (g : ∀ x1, ∀ x2, ∀ x3, ∀ x4, ∀ x5, ∀ x6, P1 x1 x2 x3 x4 x5 x6 → P2 x1 x2 x3 x4 x5 x6 → P3 x1 x2 x3 x4 x5 x6 → P4 x1 x2 x3 x4 x5 x6 → P5 x1 x2 x3 x4 x5 x6 → P6 x1 x2 x3 x4 x5 x6 → G) : G := by obtain ⟨y1, ⟨y2, ⟨y3, ⟨y4, ⟨y5, ⟨y6, ⟨h1, ⟨h2, ⟨h3, ⟨h4, ⟨h5, h6⟩⟩⟩⟩⟩⟩⟩⟩⟩⟩⟩ := h; exact g y1 y2 y3 y4 y5 y6 h1 h2 h3 h4 h5 h6
theorem ob62 {G : Prop} {P1 : Prop} {P2 : Prop} {P3 : Prop} {P4 : Prop} (h : (P1 ∧ P2) ∧ P3 ∧ P4) (g : P1 → P2 → P3 → P4 → G) : G := by obtain ⟨⟨h1, h2⟩, ⟨h3, h4⟩⟩ := h; exact g h1 h2 h3 h4
theorem ob63 {G : Prop} {A1 : Sort _} {A2 : Sort _} {A3 : Sort _} {A4 : Sort _} {A5 : Sort _} {P1 : A1 → A2 → A3 → A4 → Prop} {P2 : A1 → A2 → A3 → A4 → Prop} {P3 : A1 → A2 → A3 → A4 → Prop} {P4 : A1 → A2 → A3 → A4 → Prop} {P5 : A1 → A2 → A3 → A4 → A5 → Prop} (h : ∃ x1 : A1, ∃ x2 : A2, ∃ x3 : A3, ∃ x4 : A4, (P1 x1 x2 x3 x4 ∧ P2 x1 x2 x3 x4) ∧ P3 x1 x2 x3 x4 ∧ P4 x1 x2 x3 x4 ∧ (∃ x5 : A5, P5 x1 x2 x3 x4 x5)) (g : ∀ x1, ∀ x2, ∀ x3, ∀ x4, P1 x1 x2 x3 x4 → P2 x1 x2 x3 x4 → P3 x1 x2 x3 x4 → P4 x1 x2 x3 x4 → ∀ x5, P5 x1 x2 x3 x4 x5 → G) : G := by obtain ⟨y1, ⟨y2, ⟨y3, ⟨y4, ⟨⟨h1, h2⟩, ⟨h3, ⟨h4, ⟨y5, h5⟩⟩⟩⟩⟩⟩⟩⟩ := h; exact g y1 y2 y3 y4 h1 h2 h3 h4 y5 h5
theorem ob64 {G : Prop} {A1 : Sort _} {A2 : Sort _} {A3 : Sort _} {A4 : Sort _} {A5 : Sort _} {A6 : Sort _} {P1 : A1 → A2 → A3 → A4 → A5 → A6 → Prop} {P2 : A1 → A2 → A3 → A4 → A5 → A6 → Prop} {P3 : A1 → A2 → A3 → A4 → A5 → A6 → Prop} {P4 : A1 → A2 → A3 → A4 → A5 → A6 → Prop} (h : ∃ x1 : A1, ∃ x2 : A2, ∃ x3 : A3, ∃ x4 : A4, ∃ x5 : A5, ∃ x6 : A6, (P1 x1 x2 x3 x4 x5 x6 ∧ P2 x1 x2 x3 x4 x5 x6) ∧ P3 x1 x2 x3 x4 x5 x6 ∧ P4 x1 x2 x3 x4 x5 x6) (g : ∀ x1, ∀ x2, ∀ x3, ∀ x4, ∀ x5, ∀ x6, P1 x1 x2 x3 x4 x5 x6 → P2 x1 x2 x3 x4 x5 x6 → P3 x1 x2 x3 x4 x5 x6 → P4 x1 x2 x3 x4 x5 x6 → G) : G := by obtain ⟨y1, ⟨y2, ⟨y3, ⟨y4, ⟨y5, ⟨y6, ⟨⟨h1, h2⟩, ⟨h3, h4⟩⟩⟩⟩⟩⟩⟩⟩ := h; exact g y1 y2 y3 y4 y5 y6 h1 h2 h3 h4
theorem ob65 {G : Prop} {A1 : Sort _} {A2 : Sort _} {A3 : Sort _} {A4 : Sort _} {A5 : Sort _} {A6 : Sort _} {A7 : Sort _} {A8 : Sort _} {P1 : A1 → A2 → A3 → A4 → A5 → A6 → Prop} {P2 : A1 → A2 → A3 → A4 → A5 → A6 → Prop} {P3 : A1 → A2 → A3 → A4 → A5 → A6 → Prop} {P4 : A1 → A2 → A3 → A4 → A5 → A6 → Prop} {P5 : A1 → A2 → A3 → A4 → A5 → A6 → A7 → A8 → Prop} (h : ∃ x1 : A1, ∃ x2 : A2, ∃ x3 : A3, ∃ x4 : A4, ∃ x5 : A5, ∃ x6 : A6, (P1 x1 x2 x3 x4 x5 x6 ∧ P2 x1 x2 x3 x4 x5 x6) ∧ P3 x1 x2 x3 x4 x5 x6 ∧ P4 x1 x2 x3 x4 x5 x6 ∧ (∃ x7 : A7, ∃ x8 : A8, P5 x1 x2 x3 x4 x5 x6 x7 x8)) (g : ∀ x1, ∀ x2, ∀ x3, ∀ x4, ∀ x5, ∀ x6, P1 x1 x2 x3 x4 x5 x6 → P2 x1 x2 x3 x4 x5 x6 → P3 x1 x2 x3 x4 x5 x6 → P4 x1 x2 x3 x4 x5 x6 → ∀ x7, ∀ x8, P5 x1 x2 x3 x4 x5 x6 x7 x8 → G) : G := by obtain ⟨y1, ⟨y2, ⟨y3, ⟨y4, ⟨y5, ⟨y6, ⟨⟨h1, h2⟩, ⟨h3, ⟨h4, ⟨y7, ⟨y8, h5⟩⟩⟩⟩⟩⟩⟩⟩⟩⟩⟩ := h; exact g y1 y2 y3 y4 y5 y6 h1 h2 h3 h4 y7 y8 h5
theorem ob66 {G : Prop} {A1 : Sort _} {A2 : Sort _} {A3 : Sort _} {P1 : Prop} {P2 : Prop} {P3 : A1 → A2 → A3 → Prop} (h : P1 ∧ P2 ∧ (∃ x1 : A1, ∃ x2 : A2, ∃ x3 : A3, P3 x1 x2 x3)) (g : P1 → P2 → ∀ x1, ∀ x2, ∀ x3, P3 x1 x2 x3 → G) : G := by obtain ⟨h1, ⟨h2, ⟨y1, ⟨y2, ⟨y3, h3⟩⟩⟩⟩⟩ := h; exact g h1 h2 y1 y2 y3 h3
theorem ob67 {G : Prop} {A1 : Sort _} {A2 : Sort _} {A3 : Sort _} {A4 : Sort _} {A5 : Sort _} {A6 : Sort _} {P1 : A1 → A2 → A3 → A4 → A5 → A6 → Prop} {P2 : A1 → A2 → A3 → A4 → A5 → A6 → Prop} {P3 : A1 → A2 → A3 → A4 → A5 → A6 → Prop} {P4 : A1 → A2 → A3 → A4 → A5 → A6 → Prop} {P5 : A1 → A2 → A3 → A4 → A5 → A6 → Prop} (h : ∃ x1 : A1, ∃ x2 : A2, ∃ x3 : A3, ∃ x4 : A4, ∃ x5 : A5, ∃ x6 : A6, P1 x1 x2 x3 x4 x5 x6 ∧ P2 x1 x2 x3 x4 x5 x6 ∧ P3 x1 x2 x3 x4 x5 x6 ∧ P4 x1 x2 x3 x4 x5 x6 ∧ P5 x1 x2 x3 x4 x5 x6) (g : ∀ x1, ∀ x2, ∀ x3, ∀ x4, ∀ x5, ∀ x6, P1 x1 x2 x3 x4 x5 x6 → P2 x1 x2 x3 x4 x5 x6 → P3 x1 x2 x3 x4 x5 x6 → P4 x1 x2 x3 x4 x5 x6 → P5 x1 x2 x3 x4 x5 x6 → G) : G := by obtain ⟨y1, ⟨y2, ⟨y3, ⟨y4, ⟨y5, ⟨y6, ⟨h1, ⟨h2, ⟨h3, ⟨h4, h5⟩⟩⟩⟩⟩⟩⟩⟩⟩⟩ := h; exact g y1 y2 y3 y4 y5 y6 h1 h2 h3 h4 h5
theorem ob68 {G : Prop} {A1 : Sort _} {A2 : Sort _} {A3 : Sort _} {A4 : Sort _} {A5 : Sort _} {A6 : Sort _} {P1 : A1 → A2 → A3 → A4 → A5 → A6 → Prop} {P2 : A1 → A2 → A3 → A4 → A5 → A6 → Prop} (h : ∃ x1 : A1, ∃ x2 : A2, ∃ x3 : A3, ∃ x4 : A4, ∃ x5 : A5, ∃ x6 : A6, P1 x1 x2 x3 x4 x5 x6 ∧ P2 x1 x2 x3 x4 x5 x6) (g : ∀ x1, ∀ x2, ∀ x3, ∀ x4, ∀ x5, ∀ x6, P1 x1 x2 x3 x4 x5 x6 → P2 x1 x2 x3 x4 x5 x6 → G) : G := by obtain ⟨y1, ⟨y2, ⟨y3, ⟨y4, ⟨y5, ⟨y6, ⟨h1, h2⟩⟩⟩⟩⟩⟩⟩ := h; exact g y1 y2 y3 y4 y5 y6 h1 h2
theorem ob69 {G : Prop} {A1 : Sort _} {A2 : Sort _} {A3 : Sort _} {P1 : A1 → A2 → A3 → Prop} {P2 : A1 → A2 → A3 → Prop} {P3 : A1 → A2 → A3 → Prop} {P4 : A1 → A2 → A3 → Prop} {P5 : A1 → A2 → A3 → Prop} {P6 : A1 → A2 → A3 → Prop} {P7 : A1 → A2 → A3 → Prop} {P8 : A1 → A2 → A3 → Prop} (h : ∃ x1 : A1, ∃ x2 : A2, ∃ x3 : A3, P1 x1 x2 x3 ∧ P2 x1 x2 x3 ∧ P3 x1 x2 x3 ∧ P4 x1 x2 x3 ∧ P5 x1 x2 x3 ∧ P6 x1 x2 x3 ∧ P7 x1 x2 x3 ∧ P8 x1 x2 x3) (g : ∀ x1, ∀ x2, ∀ x3, P1 x1 x2 x3 → P2 x1 x2 x3 → P3 x1 x2 x3 → P4 x1 x2 x3 → P5 x1 x2 x3 → P6 x1 x2 x3 → P7 x1 x2 x3 → P8 x1 x2 x3 → G) : G := by obtain ⟨y1, ⟨y2, ⟨y3, ⟨h1, ⟨h2, ⟨h3, ⟨h4, ⟨h5, ⟨h6, ⟨h7, h8⟩⟩⟩⟩⟩⟩⟩⟩⟩⟩ := h; exact g y1 y2 y3 h1 h2 h3 h4 h5 h6 h7 h8
theorem ob70 {G : Prop} {A1 : Sort _} {A2 : Sort _} {A3 : Sort _} {P1 : A1 → A2 → A3 → Prop} {P2 : A1 → A2 → A3 → Prop} {P3 : A1 → A2 → A3 → Prop} {P4 : A1 → A2 → A3 → Prop} {P5 : A1 → A2 → A3 → Prop} {P6 : A1 → A2 → A3 → Prop} {P7 : A1 → A2 → A3 → Prop} {P8 : A1 → A2 → A3 → Prop} {P9 : A1 → A2 → A3 → Prop} (h : ∃ x1 : A1, ∃ x2 : A2, ∃ x3 : A3, P1 x1 x2 x3 ∧ P2 x1 x2 x3 ∧ P3 x1 x2 x3 ∧ P4 x1 x2 x3 ∧ P5 x1 x2 x3 ∧ P6 x1 x2 x3 ∧ P7 x1 x2 x3 ∧ P8 x1 x2 x3 ∧ P9 x1 x2 x3) (g : ∀ x1, ∀ x2, ∀ x3, P1 x1 x2 x3 → P2 x1 x2 x3 → P3 x1 x2 x3 → P4 x1 x2 x3 → P5 x1 x2 x3 → P6 x1 x2 x3 → P7 x1 x2 x3 → P8 x1 x2 x3 → P9 x1 x2 x3 → G) : G := by obtain ⟨y1, ⟨y2, ⟨y3, ⟨h1, ⟨h2, ⟨h3, ⟨h4, ⟨h5, ⟨h6, ⟨h7, ⟨h8, h9⟩⟩⟩⟩⟩⟩⟩⟩⟩⟩⟩ := h; exact g y1 y2 y3 h1 h2 h3 h4 h5 h6 h7 h8 h9
theorem ob71 {G : Prop} {A1 : Sort _} {A2 : Sort _} {P1 : A1 → A2 → Prop} {P2 : A1 → A2 → Prop} {P3 : A1 → A2 → Prop} (h : ∃ x1 : A1, ∃ x2 : A2, (P1 x1 x2 ∧ P2 x1 x2) ∧ P3 x1 x2) (g : ∀ x1, ∀ x2, P1 x1 x2 → P2 x1 x2 → P3 x1 x2 → G) : G := by obtain ⟨y1, ⟨y2, ⟨⟨h1, h2⟩, h3⟩⟩⟩ := h; exact g y1 y2 h1 h2 h3
theorem ob72 {G : Prop} {A1 : Sort _} {A2 : Sort _} {A3 : Sort _} {A4 : Sort _} {A5 : Sort _} {P1 : A1 → A2 → Prop} {P2 : A1 → A2 → Prop} {P3 : A1 → A2 → Prop} {P4 : A1 → A2 → Prop} {P5 : A1 → A2 → Prop} {P6 : A1 → A2 → Prop} {P7 : A1 → A2 → A3 → A4 → A5 → Prop} (h : ∃ x1 : A1, ∃ x2 : A2, (P1 x1 x2 ∧ P2 x1 x2 ∧ P3 x1 x2 ∧ P4 x1 x2 ∧ P5 x1 x2 ∧ P6 x1 x2) ∧ (∃ x3 : A3, ∃ x4 : A4, ∃ x5 : A5, P7 x1 x2 x3 x4 x5)) (g : ∀ x1, ∀ x2, P1 x1 x2 → P2 x1 x2 → P3 x1 x2 → P4 x1 x2 → P5 x1 x2 → P6 x1 x2 → ∀ x3, ∀ x4, ∀ x5, P7 x1 x2 x3 x4 x5 → G) : G := by obtain ⟨y1, ⟨y2, ⟨⟨h1, ⟨h2, ⟨h3, ⟨h4, ⟨h5, h6⟩⟩⟩⟩⟩, ⟨y3, ⟨y4, ⟨y5, h7⟩⟩⟩⟩⟩⟩ := h; exact g y1 y2 h1 h2 h3 h4 h5 h6 y3 y4 y5 h7
theorem ob73 {G : Prop} {A1 : Sort _} {A2 : Sort _} {P1 : A1 → Prop} {P2 : A1 → Prop} {P3 : A1 → Prop} {P4 : A1 → Prop} {P5 : A1 → Prop} {P6 : A1 → A2 → Prop} (h : ∃ x1 : A1, (P1 x1 ∧ P2 x1 ∧ P3 x1 ∧ P4 x1 ∧ P5 x1) ∧ (∃ x2 : A2, P6 x1 x2)) (g : ∀ x1, P1 x1 → P2 x1 → P3 x1 → P4 x1 → P5 x1 → ∀ x2, P6 x1 x2 → G) : G := by obtain ⟨y1, ⟨⟨h1, ⟨h2, ⟨h3, ⟨h4, h5⟩⟩⟩⟩, ⟨y2, h6⟩⟩⟩ := h; exact g y1 h1 h2 h3 h4 h5 y2 h6
theorem ob74 {G : Prop} {A1 : Sort _} {A2 : Sort _} {P1 : Prop} {P2 : A1 → A2 → Prop} (h : P1 ∧ (∃ x1 : A1, ∃ x2 : A2, P2 x1 x2)) (g : P1 → ∀ x1, ∀ x2, P2 x1 x2 → G) : G := by obtain ⟨h1, ⟨y1, ⟨y2, h2⟩⟩⟩ := h; exact g h1 y1 y2 h2
inductive V where
  | none | bool (b : Bool) | int (i : Int) | str (s : Str) | tup (vs : List V) | ref (a : Addr)
  deriving Inhabited
inductive AO where
  | list (vs : List V)
  | fixed (vs : List V)
  | dict (ks : List V)
  | inst (c : String) (d : Addr)
  | ns (fs : List (String × V))
  deriving Inhabited
abbrev Store := Addr → Option AO
noncomputable def Store.upd (σ : Store) (a : Addr) (o : AO) : Store := fun b => if b = a then some o else σ b
abbrev Loc := List (Option V)
noncomputable def Loc.get (ρ : Loc) (i : Nat) : Option V := (ρ[i]?).join
abbrev XP := String → Addr → Store → Prop
structure Calls where
  has : String → String → Bool
  fld : String → String → Prop
  run : String → String → List V → Store → (V → Store → Prop) → XP → Prop
abbrev onT (b : Bool) (P : Prop) : Prop := Bool.rec False P b
theorem zd7 {b : Bool} {P : Prop} (h : onT b P) : b = true ∧ P := by
  cases b
  · exact h.elim
  · exact ⟨rfl, h⟩
inductive Ty where
  | int | bool | tuple | list | str
  deriving DecidableEq
inductive B1 where
  | len | list | sorted | any | max
  deriving DecidableEq
inductive M1 where
  | append
  deriving DecidableEq
inductive Tg where
  | one (x : Nat)
  deriving DecidableEq
set_option genSizeOf false
set_option genInjectivity false
mutual
inductive Ex where
  | none | tt | ff | int (i : Int) | str (s : String)
  | var (x : Nat)
  | glob (x : String)
  | bin (op : Operator) (a b : Ex)
  | neg (a : Ex)
  | not (a : Ex)
  | cmp (op : CmpOp) (a b : Ex)
  | cmp2 (o₁ o₂ : CmpOp) (a b c : Ex)
  | bool (isAnd : Bool) (es : Exs)
  | call (f : String) (es : Exs)
  | make (c : String) (es : Exs)
  | meth (o : Ex) (name : String) (es : Exs)
  | m1 (o : Ex) (m : M1) (a : Ex)
  | attr (o : Ex) (name : String)
  | idx (o i : Ex)
  | slice (o : Ex) (lo hi : ExO)
  | list (es : Exs)
  | tuple (es : Exs)
  | dict0
  | comp (bs : List (String × Nat)) (elt : Ex) (t : Tg) (it : Ex) (cond : ExO)
  | b1 (f : B1) (e : Ex)
  | isin (e : Ex) (t : Ty)
  | range1 (a : Ex) | range2 (a b : Ex) | range3 (a b c : Ex)
inductive Exs where
  | nil
  | cons (e : Ex) (es : Exs)
inductive ExO where
  | none
  | some (e : Ex)
end
mutual
inductive St where
  | expr (e : Ex)
  | assign (t : Tg) (e : Ex)
  | setattr (o : Ex) (name : String) (e : Ex)
  | setitem (o i e : Ex)
  | ret (e : Ex)
  | raise (c msg : String)
  | iff (c : Ex) (th el : Sts)
  | whil (c : Ex) (body : Sts)
  | for (t : Tg) (it : Ex) (body : Sts)
inductive Sts where
  | nil
  | cons (s : St) (r : Sts)
end
set_option genSizeOf true
set_option genInjectivity true
noncomputable def zbb : Nat := 1000000
noncomputable def zi4 (i : Int) (n : Nat) : Option Nat :=
  if 0 ≤ i then (if i.toNat < n then some i.toNat else none)
  else if -(n : Int) ≤ i then some (i + n).toNat else none
noncomputable def zb0 (f : V → V → Option Bool) : List V → List V → Option Bool
  | [], [] => some true
  | u :: us, v :: vs =>
    match f u v, zb0 f us vs with
    | some a, some b => some (a && b)
    | _, _ => none
  | _, _ => some false
noncomputable def eqB : V → V → Option Bool
  | .none, v => (match v with | .none => some true | _ => none)
  | .bool a, v => (match v with | .bool b => some (a == b) | _ => none)
  | .int a, v => (match v with | .int b => some (a == b) | _ => none)
  | .str a, v => (match v with | .str b => some (a == b) | _ => none)
  | .tup _, _ => none
  | .ref _, _ => none
noncomputable def asL : Option AO → Option (List V)
  | some (.list us) => some us
  | _ => none
noncomputable def eqv (σ : Store) : Nat → V → V → Option Bool
  | 0, u, v => eqB u v
  | n + 1, u, v => match u with
    | .tup us => (match v with | .tup vs => zb0 (eqv σ n) us vs | _ => none)
    | .ref a => (match v with
      | .ref b => (asL (σ a)).bind fun us => (asL (σ b)).bind fun vs => if us.length = vs.length then zb0 (eqv σ n) us vs else some false
      | _ => none)
    | _ => eqB u v
noncomputable def fuel : Nat := 6
noncomputable def truthy (_ : Store) : V → Option Bool
  | .none => some false
  | .bool b => some b
  | .int i => some (i != 0)
  | _ => none
noncomputable def zio (σ : Store) (v : V) : Ty → Option Bool
  | .int => match v with | .int _ => some true | _ => none
  | .bool => match v with | .int _ => some false | _ => none
  | .tuple => match v with | .tup _ => some true | _ => none
  | .list => match v with | .ref a => (asL (σ a)).map fun _ => true | _ => none
  | .str => match v with | .str _ => some true | _ => none
noncomputable def zhN (u v : V) : Bool := match u, v with
  | .int a, .int b => a == b
  | .tup [.int a, .int b], .tup [.int c, .int d] => a == c && b == d
  | _, _ => false
noncomputable def zg5 : V → Bool
  | .int _ => true
  | _ => false
noncomputable def asP : V → Option (Int × Int)
  | .tup [.int a, .int b] => some (a, b)
  | _ => none
noncomputable def zgg (v : V) : Bool := (asP v).isSome
noncomputable def zcD (ks : List V) : Bool := ks.all zg5 || ks.all zgg
noncomputable def zck (k : V) (ks : List V) : Bool := ks.any fun x => zhN x k
noncomputable def zci (k : V) (ks : List V) : List V := if zck k ks then ks else ks ++ [k]
noncomputable def memV (σ : Store) (x : V) : List V → Option Bool
  | [] => some false
  | y :: ys => match eqv σ fuel y x, memV σ x ys with
    | some a, some b => some (a || b)
    | _, _ => none
noncomputable def inV (σ : Store) (x : V) : V → Option Bool
  | .tup vs => memV σ x vs
  | .ref a => match σ a with
    | some (.list vs) => memV σ x vs
    | some (.dict ks) => if zcD (x :: ks) then some (zck x ks) else none
    | _ => none
  | _ => none
noncomputable def zh0 (u v : V) (f : Int → Int → Bool) : Option Bool := match u, v with | .int a, .int b => some (f a b) | _, _ => none
noncomputable def ltP (u v : V) : Option Bool := (asP u).elim (zh0 u v fun a b => decide (a < b)) fun p => (asP v).elim (zh0 u v fun a b => decide (a < b)) fun q => some (decide (p.1 < q.1) || (p.1 == q.1 && decide (p.2 < q.2)))
noncomputable def noB (u : V) : Bool := match u with | .none => true | _ => false
noncomputable def isNo (u v : V) : Option Bool := match v with
  | .none => some (noB u)
  | _ => none
noncomputable def cmpV (σ : Store) (op : CmpOp) (u v : V) : Option Bool :=
  match op with
  | .Eq => eqv σ fuel u v
  | .NotEq => (eqv σ fuel u v).map (!·)
  | .Lt => ltP u v
  | .LtE => zh0 u v fun a b => decide (a ≤ b)
  | .Gt => zh0 u v fun a b => decide (b < a)
  | .GtE => zh0 u v fun a b => decide (b ≤ a)
  | .Is => isNo u v
  | .IsNot => (isNo u v).map (!·)
  | .In => inV σ u v
  | .NotIn => (inV σ u v).map (!·)
noncomputable def zc1 (n : Nat) (d : Nat) : Option Int → Nat
  | none => d
  | some i => if i < 0 then (i + n).toNat else min i.toNat n
noncomputable def zeQ {α : Type} (lo hi : Option Int) (vs : List α) : List α :=
  (vs.take (zc1 vs.length vs.length hi)).drop (zc1 vs.length 0 lo)
noncomputable def ints? : List V → Option (List Int)
  | [] => some []
  | .int i :: r => (ints? r).map (i :: ·)
  | _ => none
noncomputable def pr (p : Int × Int) : V := .tup [.int p.1, .int p.2]
noncomputable def zbx (p q : Int × Int) : Prop := p.1 < q.1 ∨ (p.1 = q.1 ∧ p.2 < q.2)
noncomputable def zeb (vs : List V) : Option (List V) :=
  if vs.length < 64 then
    match ints? vs with
    | some ns => some ((ns.mergeSort (fun a b => decide (a ≤ b))).map V.int)
    | none => none
  else none
noncomputable def zmg (vs : List V) (K : List V → Prop) : Prop := ∃ ps : List (Int × Int), (vs = ps.map pr ∧ ps.Nodup ∧ ps.length < 64) ∧ ∀ qs : List (Int × Int), qs.Perm ps → qs.Pairwise zbx → K (qs.map pr)
noncomputable def za9 {α : Type} (o : Option α) (K : α → Prop) : Prop := match o with | some a => K a | none => False
@[simp] theorem zaa {α : Type} {a : α} {K : α → Prop} : za9 (some a) K = K a := rfl
@[simp] theorem zmn {α : Type} {K : α → Prop} : za9 none K = False := rfl
noncomputable def zec (v : V) (K : Int → Prop) : Prop := match v with | .int i => K i | _ => False
@[simp] theorem zab {i : Int} {K : Int → Prop} : zec (.int i) K = K i := rfl
noncomputable def zbw (σ : Store) (v : V) (K : Addr → List V → Prop) : Prop := match v with
  | .ref a => match σ a with | some (.list vs) => K a vs | _ => False
  | _ => False
theorem zbc {σ : Store} {a : Addr} {vs : List V} {K : Addr → List V → Prop} (h : σ a = some (.list vs)) (k : K a vs) : zbw σ (.ref a) K := by
  show (match σ a with | some (.list vs) => K a vs | _ => False)
  rw [h]; exact k
noncomputable def zjN (md : Bool) (σ : Store) (v : V) (K : List V → Prop) : Prop := match v with
  | .ref a => match σ a with
    | some (.list vs) => K vs
    | _ => False
  | _ => False
theorem zi7 {md : Bool} {σ : Store} {a : Addr} {vs : List V} {K : List V → Prop} (h : σ a = some (.list vs)) (k : K vs) : zjN md σ (.ref a) K := by
  show (match σ a with | some (.list vs) => K vs | _ => False)
  rw [h]; exact k
noncomputable def alloc (σ : Store) (o : AO) (Q : V → Store → Prop) : Prop := ∀ a, σ a = none → Q (.ref a) (σ.upd a o)
noncomputable def onII (u v : V) (K : Int → Int → Prop) : Prop := match u, v with | .int a, .int b => K a b | _, _ => False
noncomputable def binV (op : Operator) (u v : V) (σ : Store) (Q : V → Store → Prop) : Prop :=
  match op with
  | .Add => match u with
    | .ref a => zbw σ (.ref a) fun _ us => zbw σ v fun _ vs => us.length + vs.length ≤ zbb ∧ alloc σ (.list (us ++ vs)) Q
    | _ => onII u v fun a b => Q (.int (a + b)) σ
  | .Sub => onII u v fun a b => Q (.int (a - b)) σ
  | .Mult => onII u v fun a b => (a.natAbs < 2 ^ 32 ∧ b.natAbs < 2 ^ 32) ∧ Q (.int (a * b)) σ
  | .FloorDiv => onII u v fun a b => (0 < b ∧ b < 1000000000) ∧ Q (.int (a.fdiv b)) σ
  | .Mod => onII u v fun a b => 0 < b ∧ Q (.int (a.fmod b)) σ
  | _ => False
noncomputable def zhJ (σ : Store) (v : V) (K : List V → Prop) : Prop := match v with
  | .tup vs => vs.length ≤ zbb ∧ K vs
  | .ref a => match σ a with | some (.list vs) => K vs | some (.fixed vs) => K vs | _ => False
  | _ => False
noncomputable def idxV (u v : V) (σ : Store) (Q : V → Prop) : Prop :=
  zhJ σ u fun vs => zec v fun i => za9 (zi4 i vs.length) fun k => za9 vs[k]? Q
noncomputable def zgV : V → Option (Option Int)
  | .none => some none
  | .int i => some (some i)
  | _ => none
noncomputable def zgS (u lo hi : V) (σ : Store) (Q : V → Store → Prop) : Prop :=
  zbw σ u fun _ vs => za9 (zgV lo) fun l => za9 (zgV hi) fun h => alloc σ (.list (zeQ l h vs)) Q
noncomputable def bools? : List V → Option (List Bool)
  | [] => some []
  | .bool b :: r => (bools? r).map (b :: ·)
  | _ => none
noncomputable def b1V (md : Bool) (f : B1) (v : V) (σ : Store) (Q : V → Store → Prop) : Prop :=
  match f with
  | .len => zhJ σ v fun vs => Q (.int vs.length) σ
  | .list => zbw σ v fun _ vs => vs.length ≤ zbb ∧ alloc σ (.list vs) Q
  | .sorted => (zjN md σ v fun vs => za9 (zeb vs) fun ws => alloc σ (.list ws) Q) ∨ zbw σ v fun _ vs => zmg vs fun ws => alloc σ (.list ws) Q
  | .any => md = true ∧ zbw σ v fun _ vs => za9 (bools? vs) fun bs => Q (.bool (bs.any id)) σ
  | .max => md = true ∧ zbw σ v fun _ vs => za9 (ints? vs) fun ns => ∃ m, (m ∈ ns ∧ ∀ x ∈ ns, x ≤ m) ∧ Q (.int m) σ
noncomputable def m1V (m : M1) (v x : V) (σ : Store) (Q : V → Store → Prop) : Prop :=
  zbw σ v fun a vs => match m with
  | .append => vs.length < zbb ∧ Q .none (σ.upd a (.list (vs ++ [x])))
noncomputable def zbJ (u i x : V) (σ : Store) (Q : Store → Prop) : Prop :=
  match u with
  | .ref a => match σ a with
    | some (.list vs) => zec i fun j => (0 ≤ j ∧ j < vs.length) ∧ Q (σ.upd a (.list (vs.set j.toNat x)))
    | some (.dict ks) => (zcD (i :: ks) = true ∧ ks.length < zbb ∧ x = .bool true) ∧ Q (σ.upd a (.dict (zci i ks)))
    | _ => False
  | _ => False
noncomputable def zfE (σ : Store) (u : V) (K : String → Addr → List (String × V) → Prop) : Prop := match u with
  | .ref a => match σ a with
    | some (.inst c d) => match σ d with | some (.ns fs) => K c d fs | _ => False
    | _ => False
  | _ => False
theorem zbl {σ : Store} {a d : Addr} {c : String} {fs : List (String × V)} {K} (h : σ a = some (.inst c d)) (h' : σ d = some (.ns fs)) (k : K c d fs) : zfE σ (.ref a) K := by
  show (match σ a with | some (.inst c d) => (match σ d with | some (.ns fs) => K c d fs | _ => False) | _ => False)
  rw [h]
  show (match σ d with | some (.ns fs) => K c d fs | _ => False)
  rw [h']; exact k
noncomputable def zdl (F : String → String → Prop) (u : V) (name : String) (σ : Store) (Q : V → Prop) : Prop := zfE σ u fun c _ fs => F c name ∧ za9 (fs.lookup name) Q
noncomputable def putF (name : String) (x : V) : List (String × V) → List (String × V)
  | [] => [(name, x)]
  | (n, v) :: r => if n = name then (n, x) :: r else (n, v) :: putF name x r
noncomputable def zd5 (F : String → String → Prop) (u : V) (name : String) (x : V) (σ : Store) (Q : Store → Prop) : Prop := zfE σ u fun c d fs => (F c name ∧ fs.length < 100) ∧ Q (σ.upd d (.ns (putF name x fs)))
noncomputable def zcY (v : V) (σ : Store) (Q : List V → (Store → Prop) → Prop) : Prop :=
  match v with
  | .tup vs => Q vs fun _ => True
  | .ref a => zbw σ (.ref a) fun a vs => Q vs fun σ' => σ' a = some (.list vs)
  | _ => False
noncomputable def upto (lo hi step : Int) : List Int :=
  if 0 < step then (List.range ((hi - lo + step - 1) / step).toNat).map fun k => lo + step * (k : Nat) else []
noncomputable def zbo : Tg → V → Loc → Option Loc
  | .one i, v, ρ => some (ρ.set i (some v))
noncomputable def zcw (chk : Store → Prop) (B : V → Store → (Option V → Store → Prop) → Prop) (Q : V → Store → Prop) : List V → List V → Store → Prop
  | [], acc, σ => chk σ ∧ alloc σ (.list acc) Q
  | v :: r, acc, σ => chk σ ∧ acc.length < zbb ∧ B v σ fun x σ' => zcw chk B Q r (match x with | some x => acc ++ [x] | none => acc) σ'
noncomputable def forV (chk : Store → Prop) (B : V → Loc → Store → (Loc → Store → Prop) → Prop) (Q : Loc → Store → Prop) : List V → Loc → Store → Prop
  | [], ρ, σ => chk σ ∧ Q ρ σ
  | v :: r, ρ, σ => chk σ ∧ B v ρ σ fun ρ' σ' => forV chk B Q r ρ' σ'
noncomputable def zep (C : Loc → Store → (Bool → Store → Prop) → Prop) (B : Loc → Store → (Loc → Store → Prop) → Prop) (Q : Loc → Store → Prop) : Nat → Loc → Store → Prop
  | 0, _, _ => False
  | n + 1, ρ, σ => C ρ σ fun b σ' => if b then B ρ σ' (fun ρ' σ'' => zep C B Q n ρ' σ'') else Q ρ σ'
noncomputable def noX : XP := fun _ _ _ => False
noncomputable def tgOk (md : Bool) : Tg → Bool
  | .one _ => true
noncomputable def zkj : String → Option Int
  | "MOST_PLACES" => some 40
  | _ => none
noncomputable def itR1 (u : V) (σ : Store) (K : List V → (Store → Prop) → Store → Prop) : Prop := zec u fun n => (n < 2 ^ 31 ∧ -(2 ^ 31) < n) ∧ K ((upto 0 n 1).map V.int) (fun _ => True) σ
noncomputable def itR2 (u v : V) (σ : Store) (K : List V → (Store → Prop) → Store → Prop) : Prop := zec u fun m => zec v fun n => (n < 2 ^ 31 ∧ -(2 ^ 31) < n ∧ m < 2 ^ 31 ∧ -(2 ^ 31) < m) ∧ K ((upto m n 1).map V.int) (fun _ => True) σ
noncomputable def itR3 (u v x : V) (σ : Store) (K : List V → (Store → Prop) → Store → Prop) : Prop := zec u fun m => zec v fun n => zec x fun k => (n < 2 ^ 31 ∧ -(2 ^ 31) < n ∧ m < 2 ^ 31 ∧ -(2 ^ 31) < m ∧ 0 < k ∧ k < 1000000000) ∧ K ((upto m n k).map V.int) (fun _ => True) σ
mutual
noncomputable def wpE (Φ : Calls) (md : Bool) : Ex → Loc → Store → (V → Store → Prop) → XP → Prop
  | .none, _, σ, Q, _ => Q .none σ
  | .tt, _, σ, Q, _ => Q (.bool true) σ
  | .ff, _, σ, Q, _ => Q (.bool false) σ
  | .int i, _, σ, Q, _ => Q (.int i) σ
  | .str s, _, σ, Q, _ => Q (.str (Str.ofString s)) σ
  | .var i, ρ, σ, Q, _ => za9 (ρ.get i) fun v => Q v σ
  | .glob x, _, σ, Q, _ => za9 (zkj x) fun i => Q (.int i) σ
  | .bin op a b, ρ, σ, Q, X => wpE Φ md a ρ σ (fun u σ₁ => wpE Φ md b ρ σ₁ (fun v σ₂ => binV op u v σ₂ Q) X) X
  | .neg a, ρ, σ, Q, X => wpE Φ md a ρ σ (fun u σ₁ => zec u fun i => Q (.int (-i)) σ₁) X
  | .not a, ρ, σ, Q, X => wpE Φ md a ρ σ (fun u σ₁ => za9 (truthy σ₁ u) fun b => Q (.bool (!b)) σ₁) X
  | .cmp op a b, ρ, σ, Q, X => wpE Φ md a ρ σ (fun u σ₁ => wpE Φ md b ρ σ₁ (fun v σ₂ => za9 (cmpV σ₂ op u v) fun r => Q (.bool r) σ₂) X) X
  | .cmp2 o₁ o₂ a b c, ρ, σ, Q, X => wpE Φ md a ρ σ (fun u σ₁ => wpE Φ md b ρ σ₁ (fun v σ₂ => za9 (cmpV σ₂ o₁ u v) fun r =>
      if r then wpE Φ md c ρ σ₂ (fun x σ₃ => za9 (cmpV σ₃ o₂ v x) fun r' => Q (.bool r') σ₃) X else Q (.bool false) σ₂) X) X
  | .bool isAnd es, ρ, σ, Q, X => zeo Φ md isAnd es ρ σ Q X
  | .call f es, ρ, σ, Q, X => onT (Φ.has "" f) (wpEs Φ md es ρ σ (fun vs σ₁ => Φ.run "" f vs σ₁ Q X) X)
  | .make c es, ρ, σ, Q, X => onT (Φ.has c "__init__") (wpEs Φ md es ρ σ (fun vs σ₁ => ∀ x d, σ₁ x = none → σ₁ d = none → x ≠ d →
      Φ.run c "__init__" (.ref x :: vs) ((σ₁.upd d (.ns [])).upd x (.inst c d)) (fun r σ₂ => r = .none ∧ Q (.ref x) σ₂) X) X)
  | .meth o name es, ρ, σ, Q, X => wpE Φ md o ρ σ (fun u σ₁ => zfE σ₁ u fun c _ fs => (fs.lookup name = none ∧ Φ.has c name = true) ∧ wpEs Φ md es ρ σ₁ (fun vs σ₂ => Φ.run c name (u :: vs) σ₂ Q X) X) X
  | .m1 o m a, ρ, σ, Q, X => wpE Φ md o ρ σ (fun u σ₁ => zbw σ₁ u fun _ _ => wpE Φ md a ρ σ₁ (fun x σ₂ => m1V m u x σ₂ Q) X) X
  | .attr o name, ρ, σ, Q, X => wpE Φ md o ρ σ (fun u σ₁ => zdl Φ.fld u name σ₁ fun x => Q x σ₁) X
  | .idx o i, ρ, σ, Q, X => wpE Φ md o ρ σ (fun u σ₁ => wpE Φ md i ρ σ₁ (fun v σ₂ => idxV u v σ₂ fun x => Q x σ₂) X) X
  | .slice o lo hi, ρ, σ, Q, X => wpE Φ md o ρ σ (fun u σ₁ => wpO Φ md lo ρ σ₁ (fun l σ₂ => wpO Φ md hi ρ σ₂ (fun h σ₃ => zgS u l h σ₃ Q) X) X) X
  | .list es, ρ, σ, Q, X => wpEs Φ md es ρ σ (fun vs σ₁ => vs.length ≤ zbb ∧ alloc σ₁ (.list vs) Q) X
  | .tuple es, ρ, σ, Q, X => wpEs Φ md es ρ σ (fun vs σ₁ => vs.length ≤ zbb ∧ Q (.tup vs) σ₁) X
  | .dict0, _, σ, Q, _ => alloc σ (.dict []) Q
  | .comp _ elt t it cond, ρ, σ, Q, X => onT md
      (let K := fun (items : List V) (chk : Store → Prop) (σ₁ : Store) => zcw chk (fun v σ₂ K => za9 (zbo t v ρ) fun ρ' => wpC Φ md cond ρ' σ₂ (fun b σ₃ => if b then wpE Φ md elt ρ' σ₃ (fun x σ₄ => K (some x) σ₄) noX else K none σ₃) noX) Q items [] σ₁
       match it with
       | .range1 a => wpE Φ md a ρ σ (fun u σ₁ => itR1 u σ₁ K) X
       | .range2 a b => wpE Φ md a ρ σ (fun u σ₁ => wpE Φ md b ρ σ₁ (fun v σ₂ => itR2 u v σ₂ K) X) X
       | .range3 a b c => wpE Φ md a ρ σ (fun u σ₁ => wpE Φ md b ρ σ₁ (fun v σ₂ => wpE Φ md c ρ σ₂ (fun x σ₃ => itR3 u v x σ₃ K) X) X) X
       | e => wpE Φ md e ρ σ (fun u σ₁ => zcY u σ₁ fun items chk => K items chk σ₁) X)
  | .b1 f e, ρ, σ, Q, X => wpE Φ md e ρ σ (fun u σ₁ => b1V md f u σ₁ Q) X
  | .isin e t, ρ, σ, Q, X => wpE Φ md e ρ σ (fun u σ₁ => za9 (zio σ₁ u t) fun b => Q (.bool b) σ₁) X
  | .range1 _, _, _, _, _ => False
  | .range2 _ _, _, _, _, _ => False
  | .range3 _ _ _, _, _, _, _ => False
noncomputable def wpEs (Φ : Calls) (md : Bool) : Exs → Loc → Store → (List V → Store → Prop) → XP → Prop
  | .nil, _, σ, Q, _ => Q [] σ
  | .cons e es, ρ, σ, Q, X => wpE Φ md e ρ σ (fun v σ₁ => wpEs Φ md es ρ σ₁ (fun vs σ₂ => Q (v :: vs) σ₂) X) X
noncomputable def zeo (Φ : Calls) (md : Bool) (isAnd : Bool) : Exs → Loc → Store → (V → Store → Prop) → XP → Prop
  | .nil, _, _, _, _ => False
  | .cons e .nil, ρ, σ, Q, X => wpE Φ md e ρ σ Q X
  | .cons e es, ρ, σ, Q, X => wpE Φ md e ρ σ (fun v σ₁ => za9 (truthy σ₁ v) fun b => if b = isAnd then zeo Φ md isAnd es ρ σ₁ Q X else Q v σ₁) X
noncomputable def wpO (Φ : Calls) (md : Bool) : ExO → Loc → Store → (V → Store → Prop) → XP → Prop
  | .none, _, σ, Q, _ => Q .none σ
  | .some e, ρ, σ, Q, X => wpE Φ md e ρ σ Q X
noncomputable def wpC (Φ : Calls) (md : Bool) : ExO → Loc → Store → (Bool → Store → Prop) → XP → Prop
  | .none, _, σ, Q, _ => Q true σ
  | .some e, ρ, σ, Q, X => wpE Φ md e ρ σ (fun v σ₁ => za9 (truthy σ₁ v) fun b => Q b σ₁) X
end
noncomputable def wpIt (Φ : Calls) (md : Bool) (it : Ex) (ρ : Loc) (σ : Store) (K : List V → (Store → Prop) → Store → Prop) (X : XP) : Prop :=
  match it with
  | .range1 a => wpE Φ md a ρ σ (fun u σ₁ => itR1 u σ₁ K) X
  | .range2 a b => wpE Φ md a ρ σ (fun u σ₁ => wpE Φ md b ρ σ₁ (fun v σ₂ => itR2 u v σ₂ K) X) X
  | .range3 a b c => wpE Φ md a ρ σ (fun u σ₁ => wpE Φ md b ρ σ₁ (fun v σ₂ => wpE Φ md c ρ σ₂ (fun x σ₃ => itR3 u v x σ₃ K) X) X) X
  | e => wpE Φ md e ρ σ (fun u σ₁ => zcY u σ₁ fun items chk => K items chk σ₁) X
noncomputable def drp (_ : V) : Bool := true
@[simp] theorem zaf {v : V} : drp v = true := rfl
abbrev XL := String → Addr → Loc → Store → Prop
mutual
noncomputable def wpS (Φ : Bool → Calls) (md : Bool) : St → Loc → Store → (Loc → Store → Prop) → (V → Store → Prop) → XL → Prop
  | .expr e, ρ, σ, N, _, X => wpE (Φ md) md e ρ σ (fun v σ₁ => onT (drp v) (N ρ σ₁)) fun c a σ₁ => X c a ρ σ₁
  | .assign t e, ρ, σ, N, _, X => onT (tgOk md t) (wpE (Φ md) md e ρ σ (fun v σ₁ => za9 (zbo t v ρ) fun ρ' => N ρ' σ₁) fun c a σ₁ => X c a ρ σ₁)
  | .setattr o name e, ρ, σ, N, _, X => wpE (Φ md) md e ρ σ (fun v σ₁ => wpE (Φ md) md o ρ σ₁ (fun u σ₂ => zd5 (Φ md).fld u name v σ₂ fun σ₃ => N ρ σ₃) fun c a σ₁ => X c a ρ σ₁) fun c a σ₁ => X c a ρ σ₁
  | .setitem o i e, ρ, σ, N, _, X => wpE (Φ md) md e ρ σ (fun v σ₁ => wpE (Φ md) md o ρ σ₁ (fun u σ₂ => wpE (Φ md) md i ρ σ₂ (fun k σ₃ => zbJ u k v σ₃ fun σ₄ => N ρ σ₄)
      fun c a σ₁ => X c a ρ σ₁) fun c a σ₁ => X c a ρ σ₁) fun c a σ₁ => X c a ρ σ₁
  | .ret e, ρ, σ, _, R, X => wpE (Φ md) md e ρ σ R fun c a σ₁ => X c a ρ σ₁
  | .raise _ _, _, _, _, _, _ => False
  | .iff c th el, ρ, σ, N, R, X => wpE (Φ md) md c ρ σ (fun v σ₁ => za9 (truthy σ₁ v) fun b => if b then wpSs Φ md th ρ σ₁ N R X else wpSs Φ md el ρ σ₁ N R X) fun c a σ₁ => X c a ρ σ₁
  | .whil c body, ρ, σ, N, R, X => ∃ n, zep (fun ρ σ K => wpE (Φ md) md c ρ σ (fun v σ₁ => za9 (truthy σ₁ v) fun b => K b σ₁) fun c a σ₁ => X c a ρ σ₁)
      (fun ρ σ K => wpSs Φ md body ρ σ K R X) N n ρ σ
  | .for t it body, ρ, σ, N, R, X => onT md (wpIt (Φ md) md it ρ σ (fun items chk σ₁ => forV chk (fun v ρ σ K => za9 (zbo t v ρ) fun ρ' => wpSs Φ md body ρ' σ K R X) N items ρ σ₁)
      fun c a σ₁ => X c a ρ σ₁)
noncomputable def wpSs (Φ : Bool → Calls) (md : Bool) : Sts → Loc → Store → (Loc → Store → Prop) → (V → Store → Prop) → XL → Prop
  | .nil, ρ, σ, N, _, _ => N ρ σ
  | .cons s r, ρ, σ, N, R, X => wpS Φ md s ρ σ (fun ρ₁ σ₁ => wpSs Φ md r ρ₁ σ₁ N R X) R X
end
structure Fn where
  params : List String
  names : List String
  size : Nat
  body : Sts
noncomputable def wpFn (Φ : Bool → Calls) (md : Bool) (f : Fn) (args : List V) (σ : Store) (Q : V → Store → Prop) (X : XP) : Prop :=
  args.length = f.params.length ∧ wpSs Φ md f.body (args.map some ++ List.replicate (f.size - args.length) none) σ (fun _ σ' => Q .none σ') Q fun c a _ σ' => X c a σ'
noncomputable def shut {α : Type} (a : α) : α := Classical.choose (⟨a, rfl⟩ : ∃ x, x = a)
theorem zmh {α : Type} (a : α) : shut a = a := Classical.choose_spec (⟨a, rfl⟩ : ∃ x, x = a)
abbrev Run := String → String → List V → Store → (V → Store → Prop) → XP → Prop
noncomputable def semR (tab : String → String → Option Fn) (fld : String → String → Bool) : Nat → Bool → Run
  | 0, _ => fun _ _ _ _ _ _ => False
  | k + 1, md => fun c f vs σ Q X => za9 (tab c f) fun fn => wpFn (fun md => ⟨fun c f => (tab c f).isSome, fun c f => fld c f = true, shut (semR tab fld k md)⟩) md fn vs σ Q X
noncomputable def sem (tab : String → String → Option Fn) (fld : String → String → Bool) (k : Nat) (md : Bool) : Calls := ⟨fun c f => (tab c f).isSome, fun c f => fld c f = true, shut (semR tab fld k md)⟩
theorem zhF {tab : String → String → Option Fn} {fld : String → String → Bool} {k : Nat} {md : Bool} : (sem tab fld k md).run = semR tab fld k md := zmh _
theorem zkR {Φ : Calls} {md : Bool} {bs : List (String × Nat)} {elt it : Ex} {t : Tg} {cond : ExO} {ρ : Loc} {σ : Store} {Q : V → Store → Prop} {X : XP} : wpE Φ md (.comp bs elt t it cond) ρ σ Q X = onT md (wpIt Φ md it ρ σ (fun items chk σ₁ =>
      zcw chk (fun v σ₂ K => za9 (zbo t v ρ) fun ρ' => wpC Φ md cond ρ' σ₂ (fun b σ₃ => if b then wpE Φ md elt ρ' σ₃ (fun x σ₄ => K (some x) σ₄) noX else K none σ₃) noX) Q items [] σ₁) X) := by
  cases it <;> rfl
end Mine
end
section
set_option linter.unusedVariables false
namespace Mine
open PySem PySem.W PySem.Calls PyProof.Rows
structure Sc where
  names : List (Str × NameKind)
  nm : List (String × Nat)
  size : Nat
noncomputable def Sc.var (S : Sc) (id : Str) (i : Nat) : Bool :=
  S.nm.any (fun p => decide (Str.ofString p.1 = id) && decide (S.nm.lookup p.1 = some i)) &&
  (S.names.lookup id == some .local || S.names.lookup id == some .cell || S.names.lookup id == some .free) && !(id == ("__debug__" : Str)) && !(id == ("__classdict__" : Str))
noncomputable def Sc.own (S : Sc) (id : Str) (i : Nat) : Bool :=
  S.nm.any (fun p => decide (Str.ofString p.1 = id) && decide (S.nm.lookup p.1 = some i)) && (S.names.lookup id == some .local || S.names.lookup id == some .cell)
noncomputable def Sc.glb (S : Sc) (id : Str) (x : String) : Bool := decide (id = Str.ofString x) && S.names.lookup id == some .globalImplicit && !(id == ("__debug__" : Str))
noncomputable def zkB : B1 → String
  | .len => "len" | .list => "list" | .sorted => "sorted" | .any => "any" | .max => "max"
noncomputable def znz : M1 → String
  | .append => "append"
noncomputable def zlK : Ty → String
  | .int => "int" | .bool => "bool" | .tuple => "tuple" | .list => "list" | .str => "str"
noncomputable def relN (out names : List (Str × NameKind)) : List (Str × NameKind) := names.map fun (n, k) => if k == .free && out.lookup n == some .cell then (n, .cell) else (n, k)
noncomputable def zcI (S : Sc) (bs : List (String × Nat)) (names : List (Str × NameKind)) : Sc := ⟨relN S.names names, bs ++ S.nm, S.size⟩
noncomputable def ziw (S : Sc) (bs : List (String × Nat)) (scope : Scope) : Bool :=
  scope.kind == .function && decide ((scope.names.map (·.1)).Nodup) &&
  scope.names.all (fun (n, k) => match k with
    | .local => decide (n = (".0" : Str)) || bs.any fun p => decide (Str.ofString p.1 = n)
    | .free => S.names.lookup n == some .cell || S.names.lookup n == some .free
    | .globalImplicit => true
    | _ => false) &&
  (bs ++ S.nm).all (fun q => decide (Str.ofString q.1 ≠ (".0" : Str))) && decide ((bs.map (·.1)).Nodup) && decide ((bs.map (·.2)).Nodup) && bs.all fun p => scope.names.lookup (Str.ofString p.1) == some .local && decide (p.2 < S.size) && S.nm.all fun q => q.2 != p.2
noncomputable def eM (x : Expr) (k_c : Const → Bool) (k_nm : Str → Bool) (k_bi : Expr → Operator → Expr → Bool) (k_un : UnaryOp → Expr → Bool) (k_cp : Expr → (List CmpOp) → (List Expr) → Bool) (k_bo : BoolOp → (List Expr) → Bool) (k_ca : Expr → (List Expr) → (List Keyword) → Pos → Bool) (k_at : Expr → Str → Pos → Bool) (k_su : Expr → Expr → Bool) (k_sl : (Option Expr) → (Option Expr) → (Option Expr) → Bool) (k_li : (List Expr) → Bool) (k_tu : (List Expr) → Bool) (k_di : (List (Option Expr)) → (List Expr) → Bool) (k_lc : Expr → (List Comprehension) → Scope → Bool) : Bool := match x with
  | .Constant c _ _ => k_c c
  | .Name id _ => k_nm id
  | .BinOp l op r _ => k_bi l op r
  | .UnaryOp op l _ => k_un op l
  | .Compare l ops rs _ => k_cp l ops rs
  | .BoolOp op xs _ => k_bo op xs
  | .Call f xs ks p => k_ca f xs ks p
  | .Attribute y id p => k_at y id p
  | .Subscript y z _ => k_su y z
  | .Slice l u st _ => k_sl l u st
  | .List xs _ => k_li xs
  | .Tuple xs _ _ => k_tu xs
  | .Dict ks vs _ => k_di ks vs
  | .ListComp y gs sc _ => k_lc y gs sc
  | _ => false
theorem eME {P : Expr → Prop} {x : Expr} {k_c : Const → Bool} {k_nm : Str → Bool} {k_bi : Expr → Operator → Expr → Bool} {k_un : UnaryOp → Expr → Bool} {k_cp : Expr → (List CmpOp) → (List Expr) → Bool} {k_bo : BoolOp → (List Expr) → Bool} {k_ca : Expr → (List Expr) → (List Keyword) → Pos → Bool} {k_at : Expr → Str → Pos → Bool} {k_su : Expr → Expr → Bool} {k_sl : (Option Expr) → (Option Expr) → (Option Expr) → Bool} {k_li : (List Expr) → Bool} {k_tu : (List Expr) → Bool} {k_di : (List (Option Expr)) → (List Expr) → Bool} {k_lc : Expr → (List Comprehension) → Scope → Bool} (h : eM x k_c k_nm k_bi k_un k_cp k_bo k_ca k_at k_su k_sl k_li k_tu k_di k_lc = true)
    (h_c : ∀ c kk p, k_c c = true → P (.Constant c kk p)) (h_nm : ∀ id p, k_nm id = true → P (.Name id p)) (h_bi : ∀ l op r p, k_bi l op r = true → P (.BinOp l op r p)) (h_un : ∀ op l p, k_un op l = true → P (.UnaryOp op l p)) (h_cp : ∀ l ops rs p, k_cp l ops rs = true → P (.Compare l ops rs p)) (h_bo : ∀ op xs p, k_bo op xs = true → P (.BoolOp op xs p)) (h_ca : ∀ f xs ks p, k_ca f xs ks p = true → P (.Call f xs ks p)) (h_at : ∀ y id p, k_at y id p = true → P (.Attribute y id p)) (h_su : ∀ y z p, k_su y z = true → P (.Subscript y z p)) (h_sl : ∀ l u st p, k_sl l u st = true → P (.Slice l u st p)) (h_li : ∀ xs p, k_li xs = true → P (.List xs p)) (h_tu : ∀ xs kk p, k_tu xs = true → P (.Tuple xs kk p)) (h_di : ∀ ks vs p, k_di ks vs = true → P (.Dict ks vs p)) (h_lc : ∀ y gs sc p, k_lc y gs sc = true → P (.ListComp y gs sc p)) : P x := by
  cases x <;> first | exact absurd h Bool.false_ne_true | exact h_c _ _ _ h | exact h_nm _ _ h | exact h_bi _ _ _ _ h | exact h_un _ _ _ h | exact h_cp _ _ _ _ h | exact h_bo _ _ _ h | exact h_ca _ _ _ _ h | exact h_at _ _ _ h | exact h_su _ _ _ h | exact h_sl _ _ _ _ h | exact h_li _ _ h | exact h_tu _ _ _ h | exact h_di _ _ _ h | exact h_lc _ _ _ _ h
noncomputable def cM (x : Expr) (k : Const → Bool) : Bool := eM x k (fun _ => false) (fun _ _ _ => false) (fun _ _ => false) (fun _ _ _ => false) (fun _ _ => false) (fun _ _ _ _ => false) (fun _ _ _ => false) (fun _ _ => false) (fun _ _ _ => false) (fun _ => false) (fun _ => false) (fun _ _ => false) (fun _ _ _ => false)
@[elab_as_elim] theorem cME {P : Expr → Prop} {x : Expr} {k : Const → Bool} (h : cM x k = true) (g : ∀ c kk p, k c = true → P (.Constant c kk p)) : P x :=
  eME h g (fun _ _ h => absurd h Bool.false_ne_true) (fun _ _ _ _ h => absurd h Bool.false_ne_true) (fun _ _ _ h => absurd h Bool.false_ne_true) (fun _ _ _ _ h => absurd h Bool.false_ne_true) (fun _ _ _ h => absurd h Bool.false_ne_true) (fun _ _ _ _ h => absurd h Bool.false_ne_true) (fun _ _ _ h => absurd h Bool.false_ne_true) (fun _ _ _ h => absurd h Bool.false_ne_true) (fun _ _ _ _ h => absurd h Bool.false_ne_true) (fun _ _ h => absurd h Bool.false_ne_true) (fun _ _ _ h => absurd h Bool.false_ne_true) (fun _ _ _ h => absurd h Bool.false_ne_true) (fun _ _ _ _ h => absurd h Bool.false_ne_true)
noncomputable def nmM (x : Expr) (k : Str → Bool) : Bool := eM x (fun _ => false) k (fun _ _ _ => false) (fun _ _ => false) (fun _ _ _ => false) (fun _ _ => false) (fun _ _ _ _ => false) (fun _ _ _ => false) (fun _ _ => false) (fun _ _ _ => false) (fun _ => false) (fun _ => false) (fun _ _ => false) (fun _ _ _ => false)
@[elab_as_elim] theorem nmME {P : Expr → Prop} {x : Expr} {k : Str → Bool} (h : nmM x k = true) (g : ∀ id p, k id = true → P (.Name id p)) : P x :=
  eME h (fun _ _ _ h => absurd h Bool.false_ne_true) g (fun _ _ _ _ h => absurd h Bool.false_ne_true) (fun _ _ _ h => absurd h Bool.false_ne_true) (fun _ _ _ _ h => absurd h Bool.false_ne_true) (fun _ _ _ h => absurd h Bool.false_ne_true) (fun _ _ _ _ h => absurd h Bool.false_ne_true) (fun _ _ _ h => absurd h Bool.false_ne_true) (fun _ _ _ h => absurd h Bool.false_ne_true) (fun _ _ _ _ h => absurd h Bool.false_ne_true) (fun _ _ h => absurd h Bool.false_ne_true) (fun _ _ _ h => absurd h Bool.false_ne_true) (fun _ _ _ h => absurd h Bool.false_ne_true) (fun _ _ _ _ h => absurd h Bool.false_ne_true)
noncomputable def biM (x : Expr) (k : Expr → Operator → Expr → Bool) : Bool := eM x (fun _ => false) (fun _ => false) k (fun _ _ => false) (fun _ _ _ => false) (fun _ _ => false) (fun _ _ _ _ => false) (fun _ _ _ => false) (fun _ _ => false) (fun _ _ _ => false) (fun _ => false) (fun _ => false) (fun _ _ => false) (fun _ _ _ => false)
@[elab_as_elim] theorem biME {P : Expr → Prop} {x : Expr} {k : Expr → Operator → Expr → Bool} (h : biM x k = true) (g : ∀ l op r p, k l op r = true → P (.BinOp l op r p)) : P x :=
  eME h (fun _ _ _ h => absurd h Bool.false_ne_true) (fun _ _ h => absurd h Bool.false_ne_true) g (fun _ _ _ h => absurd h Bool.false_ne_true) (fun _ _ _ _ h => absurd h Bool.false_ne_true) (fun _ _ _ h => absurd h Bool.false_ne_true) (fun _ _ _ _ h => absurd h Bool.false_ne_true) (fun _ _ _ h => absurd h Bool.false_ne_true) (fun _ _ _ h => absurd h Bool.false_ne_true) (fun _ _ _ _ h => absurd h Bool.false_ne_true) (fun _ _ h => absurd h Bool.false_ne_true) (fun _ _ _ h => absurd h Bool.false_ne_true) (fun _ _ _ h => absurd h Bool.false_ne_true) (fun _ _ _ _ h => absurd h Bool.false_ne_true)
noncomputable def unM (x : Expr) (k : UnaryOp → Expr → Bool) : Bool := eM x (fun _ => false) (fun _ => false) (fun _ _ _ => false) k (fun _ _ _ => false) (fun _ _ => false) (fun _ _ _ _ => false) (fun _ _ _ => false) (fun _ _ => false) (fun _ _ _ => false) (fun _ => false) (fun _ => false) (fun _ _ => false) (fun _ _ _ => false)
@[elab_as_elim] theorem unME {P : Expr → Prop} {x : Expr} {k : UnaryOp → Expr → Bool} (h : unM x k = true) (g : ∀ op l p, k op l = true → P (.UnaryOp op l p)) : P x :=
  eME h (fun _ _ _ h => absurd h Bool.false_ne_true) (fun _ _ h => absurd h Bool.false_ne_true) (fun _ _ _ _ h => absurd h Bool.false_ne_true) g (fun _ _ _ _ h => absurd h Bool.false_ne_true) (fun _ _ _ h => absurd h Bool.false_ne_true) (fun _ _ _ _ h => absurd h Bool.false_ne_true) (fun _ _ _ h => absurd h Bool.false_ne_true) (fun _ _ _ h => absurd h Bool.false_ne_true) (fun _ _ _ _ h => absurd h Bool.false_ne_true) (fun _ _ h => absurd h Bool.false_ne_true) (fun _ _ _ h => absurd h Bool.false_ne_true) (fun _ _ _ h => absurd h Bool.false_ne_true) (fun _ _ _ _ h => absurd h Bool.false_ne_true)
noncomputable def cpM (x : Expr) (k : Expr → (List CmpOp) → (List Expr) → Bool) : Bool := eM x (fun _ => false) (fun _ => false) (fun _ _ _ => false) (fun _ _ => false) k (fun _ _ => false) (fun _ _ _ _ => false) (fun _ _ _ => false) (fun _ _ => false) (fun _ _ _ => false) (fun _ => false) (fun _ => false) (fun _ _ => false) (fun _ _ _ => false)
@[elab_as_elim] theorem cpME {P : Expr → Prop} {x : Expr} {k : Expr → (List CmpOp) → (List Expr) → Bool} (h : cpM x k = true) (g : ∀ l ops rs p, k l ops rs = true → P (.Compare l ops rs p)) : P x :=
  eME h (fun _ _ _ h => absurd h Bool.false_ne_true) (fun _ _ h => absurd h Bool.false_ne_true) (fun _ _ _ _ h => absurd h Bool.false_ne_true) (fun _ _ _ h => absurd h Bool.false_ne_true) g (fun _ _ _ h => absurd h Bool.false_ne_true) (fun _ _ _ _ h => absurd h Bool.false_ne_true) (fun _ _ _ h => absurd h Bool.false_ne_true) (fun _ _ _ h => absurd h Bool.false_ne_true) (fun _ _ _ _ h => absurd h Bool.false_ne_true) (fun _ _ h => absurd h Bool.false_ne_true) (fun _ _ _ h => absurd h Bool.false_ne_true) (fun _ _ _ h => absurd h Bool.false_ne_true) (fun _ _ _ _ h => absurd h Bool.false_ne_true)
noncomputable def boM (x : Expr) (k : BoolOp → (List Expr) → Bool) : Bool := eM x (fun _ => false) (fun _ => false) (fun _ _ _ => false) (fun _ _ => false) (fun _ _ _ => false) k (fun _ _ _ _ => false) (fun _ _ _ => false) (fun _ _ => false) (fun _ _ _ => false) (fun _ => false) (fun _ => false) (fun _ _ => false) (fun _ _ _ => false)
@[elab_as_elim] theorem boME {P : Expr → Prop} {x : Expr} {k : BoolOp → (List Expr) → Bool} (h : boM x k = true) (g : ∀ op xs p, k op xs = true → P (.BoolOp op xs p)) : P x :=
  eME h (fun _ _ _ h => absurd h Bool.false_ne_true) (fun _ _ h => absurd h Bool.false_ne_true) (fun _ _ _ _ h => absurd h Bool.false_ne_true) (fun _ _ _ h => absurd h Bool.false_ne_true) (fun _ _ _ _ h => absurd h Bool.false_ne_true) g (fun _ _ _ _ h => absurd h Bool.false_ne_true) (fun _ _ _ h => absurd h Bool.false_ne_true) (fun _ _ _ h => absurd h Bool.false_ne_true) (fun _ _ _ _ h => absurd h Bool.false_ne_true) (fun _ _ h => absurd h Bool.false_ne_true) (fun _ _ _ h => absurd h Bool.false_ne_true) (fun _ _ _ h => absurd h Bool.false_ne_true) (fun _ _ _ _ h => absurd h Bool.false_ne_true)
noncomputable def caM (x : Expr) (k : Expr → (List Expr) → (List Keyword) → Pos → Bool) : Bool := eM x (fun _ => false) (fun _ => false) (fun _ _ _ => false) (fun _ _ => false) (fun _ _ _ => false) (fun _ _ => false) k (fun _ _ _ => false) (fun _ _ => false) (fun _ _ _ => false) (fun _ => false) (fun _ => false) (fun _ _ => false) (fun _ _ _ => false)
@[elab_as_elim] theorem caME {P : Expr → Prop} {x : Expr} {k : Expr → (List Expr) → (List Keyword) → Pos → Bool} (h : caM x k = true) (g : ∀ f xs ks p, k f xs ks p = true → P (.Call f xs ks p)) : P x :=
  eME h (fun _ _ _ h => absurd h Bool.false_ne_true) (fun _ _ h => absurd h Bool.false_ne_true) (fun _ _ _ _ h => absurd h Bool.false_ne_true) (fun _ _ _ h => absurd h Bool.false_ne_true) (fun _ _ _ _ h => absurd h Bool.false_ne_true) (fun _ _ _ h => absurd h Bool.false_ne_true) g (fun _ _ _ h => absurd h Bool.false_ne_true) (fun _ _ _ h => absurd h Bool.false_ne_true) (fun _ _ _ _ h => absurd h Bool.false_ne_true) (fun _ _ h => absurd h Bool.false_ne_true) (fun _ _ _ h => absurd h Bool.false_ne_true) (fun _ _ _ h => absurd h Bool.false_ne_true) (fun _ _ _ _ h => absurd h Bool.false_ne_true)
noncomputable def atM (x : Expr) (k : Expr → Str → Pos → Bool) : Bool := eM x (fun _ => false) (fun _ => false) (fun _ _ _ => false) (fun _ _ => false) (fun _ _ _ => false) (fun _ _ => false) (fun _ _ _ _ => false) k (fun _ _ => false) (fun _ _ _ => false) (fun _ => false) (fun _ => false) (fun _ _ => false) (fun _ _ _ => false)
@[elab_as_elim] theorem atME {P : Expr → Prop} {x : Expr} {k : Expr → Str → Pos → Bool} (h : atM x k = true) (g : ∀ y id p, k y id p = true → P (.Attribute y id p)) : P x :=
  eME h (fun _ _ _ h => absurd h Bool.false_ne_true) (fun _ _ h => absurd h Bool.false_ne_true) (fun _ _ _ _ h => absurd h Bool.false_ne_true) (fun _ _ _ h => absurd h Bool.false_ne_true) (fun _ _ _ _ h => absurd h Bool.false_ne_true) (fun _ _ _ h => absurd h Bool.false_ne_true) (fun _ _ _ _ h => absurd h Bool.false_ne_true) g (fun _ _ _ h => absurd h Bool.false_ne_true) (fun _ _ _ _ h => absurd h Bool.false_ne_true) (fun _ _ h => absurd h Bool.false_ne_true) (fun _ _ _ h => absurd h Bool.false_ne_true) (fun _ _ _ h => absurd h Bool.false_ne_true) (fun _ _ _ _ h => absurd h Bool.false_ne_true)
noncomputable def suM (x : Expr) (k : Expr → Expr → Bool) : Bool := eM x (fun _ => false) (fun _ => false) (fun _ _ _ => false) (fun _ _ => false) (fun _ _ _ => false) (fun _ _ => false) (fun _ _ _ _ => false) (fun _ _ _ => false) k (fun _ _ _ => false) (fun _ => false) (fun _ => false) (fun _ _ => false) (fun _ _ _ => false)
@[elab_as_elim] theorem suME {P : Expr → Prop} {x : Expr} {k : Expr → Expr → Bool} (h : suM x k = true) (g : ∀ y z p, k y z = true → P (.Subscript y z p)) : P x :=
  eME h (fun _ _ _ h => absurd h Bool.false_ne_true) (fun _ _ h => absurd h Bool.false_ne_true) (fun _ _ _ _ h => absurd h Bool.false_ne_true) (fun _ _ _ h => absurd h Bool.false_ne_true) (fun _ _ _ _ h => absurd h Bool.false_ne_true) (fun _ _ _ h => absurd h Bool.false_ne_true) (fun _ _ _ _ h => absurd h Bool.false_ne_true) (fun _ _ _ h => absurd h Bool.false_ne_true) g (fun _ _ _ _ h => absurd h Bool.false_ne_true) (fun _ _ h => absurd h Bool.false_ne_true) (fun _ _ _ h => absurd h Bool.false_ne_true) (fun _ _ _ h => absurd h Bool.false_ne_true) (fun _ _ _ _ h => absurd h Bool.false_ne_true)
noncomputable def slM (x : Expr) (k : (Option Expr) → (Option Expr) → (Option Expr) → Bool) : Bool := eM x (fun _ => false) (fun _ => false) (fun _ _ _ => false) (fun _ _ => false) (fun _ _ _ => false) (fun _ _ => false) (fun _ _ _ _ => false) (fun _ _ _ => false) (fun _ _ => false) k (fun _ => false) (fun _ => false) (fun _ _ => false) (fun _ _ _ => false)
@[elab_as_elim] theorem slME {P : Expr → Prop} {x : Expr} {k : (Option Expr) → (Option Expr) → (Option Expr) → Bool} (h : slM x k = true) (g : ∀ l u st p, k l u st = true → P (.Slice l u st p)) : P x :=
  eME h (fun _ _ _ h => absurd h Bool.false_ne_true) (fun _ _ h => absurd h Bool.false_ne_true) (fun _ _ _ _ h => absurd h Bool.false_ne_true) (fun _ _ _ h => absurd h Bool.false_ne_true) (fun _ _ _ _ h => absurd h Bool.false_ne_true) (fun _ _ _ h => absurd h Bool.false_ne_true) (fun _ _ _ _ h => absurd h Bool.false_ne_true) (fun _ _ _ h => absurd h Bool.false_ne_true) (fun _ _ _ h => absurd h Bool.false_ne_true) g (fun _ _ h => absurd h Bool.false_ne_true) (fun _ _ _ h => absurd h Bool.false_ne_true) (fun _ _ _ h => absurd h Bool.false_ne_true) (fun _ _ _ _ h => absurd h Bool.false_ne_true)
noncomputable def liM (x : Expr) (k : (List Expr) → Bool) : Bool := eM x (fun _ => false) (fun _ => false) (fun _ _ _ => false) (fun _ _ => false) (fun _ _ _ => false) (fun _ _ => false) (fun _ _ _ _ => false) (fun _ _ _ => false) (fun _ _ => false) (fun _ _ _ => false) k (fun _ => false) (fun _ _ => false) (fun _ _ _ => false)
@[elab_as_elim] theorem liME {P : Expr → Prop} {x : Expr} {k : (List Expr) → Bool} (h : liM x k = true) (g : ∀ xs p, k xs = true → P (.List xs p)) : P x :=
  eME h (fun _ _ _ h => absurd h Bool.false_ne_true) (fun _ _ h => absurd h Bool.false_ne_true) (fun _ _ _ _ h => absurd h Bool.false_ne_true) (fun _ _ _ h => absurd h Bool.false_ne_true) (fun _ _ _ _ h => absurd h Bool.false_ne_true) (fun _ _ _ h => absurd h Bool.false_ne_true) (fun _ _ _ _ h => absurd h Bool.false_ne_true) (fun _ _ _ h => absurd h Bool.false_ne_true) (fun _ _ _ h => absurd h Bool.false_ne_true) (fun _ _ _ _ h => absurd h Bool.false_ne_true) g (fun _ _ _ h => absurd h Bool.false_ne_true) (fun _ _ _ h => absurd h Bool.false_ne_true) (fun _ _ _ _ h => absurd h Bool.false_ne_true)
noncomputable def tuM (x : Expr) (k : (List Expr) → Bool) : Bool := eM x (fun _ => false) (fun _ => false) (fun _ _ _ => false) (fun _ _ => false) (fun _ _ _ => false) (fun _ _ => false) (fun _ _ _ _ => false) (fun _ _ _ => false) (fun _ _ => false) (fun _ _ _ => false) (fun _ => false) k (fun _ _ => false) (fun _ _ _ => false)
@[elab_as_elim] theorem tuME {P : Expr → Prop} {x : Expr} {k : (List Expr) → Bool} (h : tuM x k = true) (g : ∀ xs kk p, k xs = true → P (.Tuple xs kk p)) : P x :=
  eME h (fun _ _ _ h => absurd h Bool.false_ne_true) (fun _ _ h => absurd h Bool.false_ne_true) (fun _ _ _ _ h => absurd h Bool.false_ne_true) (fun _ _ _ h => absurd h Bool.false_ne_true) (fun _ _ _ _ h => absurd h Bool.false_ne_true) (fun _ _ _ h => absurd h Bool.false_ne_true) (fun _ _ _ _ h => absurd h Bool.false_ne_true) (fun _ _ _ h => absurd h Bool.false_ne_true) (fun _ _ _ h => absurd h Bool.false_ne_true) (fun _ _ _ _ h => absurd h Bool.false_ne_true) (fun _ _ h => absurd h Bool.false_ne_true) g (fun _ _ _ h => absurd h Bool.false_ne_true) (fun _ _ _ _ h => absurd h Bool.false_ne_true)
noncomputable def diM (x : Expr) (k : (List (Option Expr)) → (List Expr) → Bool) : Bool := eM x (fun _ => false) (fun _ => false) (fun _ _ _ => false) (fun _ _ => false) (fun _ _ _ => false) (fun _ _ => false) (fun _ _ _ _ => false) (fun _ _ _ => false) (fun _ _ => false) (fun _ _ _ => false) (fun _ => false) (fun _ => false) k (fun _ _ _ => false)
@[elab_as_elim] theorem diME {P : Expr → Prop} {x : Expr} {k : (List (Option Expr)) → (List Expr) → Bool} (h : diM x k = true) (g : ∀ ks vs p, k ks vs = true → P (.Dict ks vs p)) : P x :=
  eME h (fun _ _ _ h => absurd h Bool.false_ne_true) (fun _ _ h => absurd h Bool.false_ne_true) (fun _ _ _ _ h => absurd h Bool.false_ne_true) (fun _ _ _ h => absurd h Bool.false_ne_true) (fun _ _ _ _ h => absurd h Bool.false_ne_true) (fun _ _ _ h => absurd h Bool.false_ne_true) (fun _ _ _ _ h => absurd h Bool.false_ne_true) (fun _ _ _ h => absurd h Bool.false_ne_true) (fun _ _ _ h => absurd h Bool.false_ne_true) (fun _ _ _ _ h => absurd h Bool.false_ne_true) (fun _ _ h => absurd h Bool.false_ne_true) (fun _ _ _ h => absurd h Bool.false_ne_true) g (fun _ _ _ _ h => absurd h Bool.false_ne_true)
noncomputable def lcM (x : Expr) (k : Expr → (List Comprehension) → Scope → Bool) : Bool := eM x (fun _ => false) (fun _ => false) (fun _ _ _ => false) (fun _ _ => false) (fun _ _ _ => false) (fun _ _ => false) (fun _ _ _ _ => false) (fun _ _ _ => false) (fun _ _ => false) (fun _ _ _ => false) (fun _ => false) (fun _ => false) (fun _ _ => false) k
@[elab_as_elim] theorem lcME {P : Expr → Prop} {x : Expr} {k : Expr → (List Comprehension) → Scope → Bool} (h : lcM x k = true) (g : ∀ y gs sc p, k y gs sc = true → P (.ListComp y gs sc p)) : P x :=
  eME h (fun _ _ _ h => absurd h Bool.false_ne_true) (fun _ _ h => absurd h Bool.false_ne_true) (fun _ _ _ _ h => absurd h Bool.false_ne_true) (fun _ _ _ h => absurd h Bool.false_ne_true) (fun _ _ _ _ h => absurd h Bool.false_ne_true) (fun _ _ _ h => absurd h Bool.false_ne_true) (fun _ _ _ _ h => absurd h Bool.false_ne_true) (fun _ _ _ h => absurd h Bool.false_ne_true) (fun _ _ _ h => absurd h Bool.false_ne_true) (fun _ _ _ _ h => absurd h Bool.false_ne_true) (fun _ _ h => absurd h Bool.false_ne_true) (fun _ _ _ h => absurd h Bool.false_ne_true) (fun _ _ _ h => absurd h Bool.false_ne_true) g
noncomputable def sM (x : Stmt) (k_sx : Expr → Bool) (k_sas : (List Expr) → Expr → Bool) (k_sre : (Option Expr) → Bool) (k_spa : Bool) (k_sra : (Option Expr) → (Option Expr) → Bool) (k_sif : Expr → (List Stmt) → (List Stmt) → Bool) (k_swh : Expr → (List Stmt) → (List Stmt) → Bool) (k_sfo : Expr → Expr → (List Stmt) → (List Stmt) → Bool) (k_str : (List Stmt) → (List ExceptHandler) → (List Stmt) → (List Stmt) → Bool) : Bool := match x with
  | .Expr e _ => k_sx e
  | .Assign ts e _ => k_sas ts e
  | .Return e _ => k_sre e
  | .Pass _ => k_spa
  | .Raise e c _ => k_sra e c
  | .If e b o _ => k_sif e b o
  | .While e b o _ => k_swh e b o
  | .For t e b o _ => k_sfo t e b o
  | .Try b hs o f _ => k_str b hs o f
  | _ => false
theorem sME {P : Stmt → Prop} {x : Stmt} {k_sx : Expr → Bool} {k_sas : (List Expr) → Expr → Bool} {k_sre : (Option Expr) → Bool} {k_spa : Bool} {k_sra : (Option Expr) → (Option Expr) → Bool} {k_sif : Expr → (List Stmt) → (List Stmt) → Bool} {k_swh : Expr → (List Stmt) → (List Stmt) → Bool} {k_sfo : Expr → Expr → (List Stmt) → (List Stmt) → Bool} {k_str : (List Stmt) → (List ExceptHandler) → (List Stmt) → (List Stmt) → Bool} (h : sM x k_sx k_sas k_sre k_spa k_sra k_sif k_swh k_sfo k_str = true)
    (h_sx : ∀ e p, k_sx e = true → P (.Expr e p)) (h_sas : ∀ ts e p, k_sas ts e = true → P (.Assign ts e p)) (h_sre : ∀ e p, k_sre e = true → P (.Return e p)) (h_spa : ∀ p, k_spa = true → P (.Pass p)) (h_sra : ∀ e c p, k_sra e c = true → P (.Raise e c p)) (h_sif : ∀ e b o p, k_sif e b o = true → P (.If e b o p)) (h_swh : ∀ e b o p, k_swh e b o = true → P (.While e b o p)) (h_sfo : ∀ t e b o p, k_sfo t e b o = true → P (.For t e b o p)) (h_str : ∀ b hs o f p, k_str b hs o f = true → P (.Try b hs o f p)) : P x := by
  cases x <;> first | exact absurd h Bool.false_ne_true | exact h_sx _ _ h | exact h_sas _ _ _ h | exact h_sre _ _ h | exact h_spa _ h | exact h_sra _ _ _ h | exact h_sif _ _ _ _ h | exact h_swh _ _ _ _ h | exact h_sfo _ _ _ _ _ h | exact h_str _ _ _ _ _ h
noncomputable def sxM (x : Stmt) (k : Expr → Bool) : Bool := sM x k (fun _ _ => false) (fun _ => false) false (fun _ _ => false) (fun _ _ _ => false) (fun _ _ _ => false) (fun _ _ _ _ => false) (fun _ _ _ _ => false)
@[elab_as_elim] theorem sxME {P : Stmt → Prop} {x : Stmt} {k : Expr → Bool} (h : sxM x k = true) (g : ∀ e p, k e = true → P (.Expr e p)) : P x :=
  sME h g (fun _ _ _ h => absurd h Bool.false_ne_true) (fun _ _ h => absurd h Bool.false_ne_true) (fun _ h => absurd h Bool.false_ne_true) (fun _ _ _ h => absurd h Bool.false_ne_true) (fun _ _ _ _ h => absurd h Bool.false_ne_true) (fun _ _ _ _ h => absurd h Bool.false_ne_true) (fun _ _ _ _ _ h => absurd h Bool.false_ne_true) (fun _ _ _ _ _ h => absurd h Bool.false_ne_true)
noncomputable def sasM (x : Stmt) (k : (List Expr) → Expr → Bool) : Bool := sM x (fun _ => false) k (fun _ => false) false (fun _ _ => false) (fun _ _ _ => false) (fun _ _ _ => false) (fun _ _ _ _ => false) (fun _ _ _ _ => false)
@[elab_as_elim] theorem zmi {P : Stmt → Prop} {x : Stmt} {k : (List Expr) → Expr → Bool} (h : sasM x k = true) (g : ∀ ts e p, k ts e = true → P (.Assign ts e p)) : P x :=
  sME h (fun _ _ h => absurd h Bool.false_ne_true) g (fun _ _ h => absurd h Bool.false_ne_true) (fun _ h => absurd h Bool.false_ne_true) (fun _ _ _ h => absurd h Bool.false_ne_true) (fun _ _ _ _ h => absurd h Bool.false_ne_true) (fun _ _ _ _ h => absurd h Bool.false_ne_true) (fun _ _ _ _ _ h => absurd h Bool.false_ne_true) (fun _ _ _ _ _ h => absurd h Bool.false_ne_true)
noncomputable def sreM (x : Stmt) (k : (Option Expr) → Bool) : Bool := sM x (fun _ => false) (fun _ _ => false) k false (fun _ _ => false) (fun _ _ _ => false) (fun _ _ _ => false) (fun _ _ _ _ => false) (fun _ _ _ _ => false)
@[elab_as_elim] theorem zn2 {P : Stmt → Prop} {x : Stmt} {k : (Option Expr) → Bool} (h : sreM x k = true) (g : ∀ e p, k e = true → P (.Return e p)) : P x :=
  sME h (fun _ _ h => absurd h Bool.false_ne_true) (fun _ _ _ h => absurd h Bool.false_ne_true) g (fun _ h => absurd h Bool.false_ne_true) (fun _ _ _ h => absurd h Bool.false_ne_true) (fun _ _ _ _ h => absurd h Bool.false_ne_true) (fun _ _ _ _ h => absurd h Bool.false_ne_true) (fun _ _ _ _ _ h => absurd h Bool.false_ne_true) (fun _ _ _ _ _ h => absurd h Bool.false_ne_true)
noncomputable def sifM (x : Stmt) (k : Expr → (List Stmt) → (List Stmt) → Bool) : Bool := sM x (fun _ => false) (fun _ _ => false) (fun _ => false) false (fun _ _ => false) k (fun _ _ _ => false) (fun _ _ _ _ => false) (fun _ _ _ _ => false)
@[elab_as_elim] theorem zn3 {P : Stmt → Prop} {x : Stmt} {k : Expr → (List Stmt) → (List Stmt) → Bool} (h : sifM x k = true) (g : ∀ e b o p, k e b o = true → P (.If e b o p)) : P x :=
  sME h (fun _ _ h => absurd h Bool.false_ne_true) (fun _ _ _ h => absurd h Bool.false_ne_true) (fun _ _ h => absurd h Bool.false_ne_true) (fun _ h => absurd h Bool.false_ne_true) (fun _ _ _ h => absurd h Bool.false_ne_true) g (fun _ _ _ _ h => absurd h Bool.false_ne_true) (fun _ _ _ _ _ h => absurd h Bool.false_ne_true) (fun _ _ _ _ _ h => absurd h Bool.false_ne_true)
noncomputable def swhM (x : Stmt) (k : Expr → (List Stmt) → (List Stmt) → Bool) : Bool := sM x (fun _ => false) (fun _ _ => false) (fun _ => false) false (fun _ _ => false) (fun _ _ _ => false) k (fun _ _ _ _ => false) (fun _ _ _ _ => false)
@[elab_as_elim] theorem zn1 {P : Stmt → Prop} {x : Stmt} {k : Expr → (List Stmt) → (List Stmt) → Bool} (h : swhM x k = true) (g : ∀ e b o p, k e b o = true → P (.While e b o p)) : P x :=
  sME h (fun _ _ h => absurd h Bool.false_ne_true) (fun _ _ _ h => absurd h Bool.false_ne_true) (fun _ _ h => absurd h Bool.false_ne_true) (fun _ h => absurd h Bool.false_ne_true) (fun _ _ _ h => absurd h Bool.false_ne_true) (fun _ _ _ _ h => absurd h Bool.false_ne_true) g (fun _ _ _ _ _ h => absurd h Bool.false_ne_true) (fun _ _ _ _ _ h => absurd h Bool.false_ne_true)
noncomputable def sfoM (x : Stmt) (k : Expr → Expr → (List Stmt) → (List Stmt) → Bool) : Bool := sM x (fun _ => false) (fun _ _ => false) (fun _ => false) false (fun _ _ => false) (fun _ _ _ => false) (fun _ _ _ => false) k (fun _ _ _ _ => false)
@[elab_as_elim] theorem zn4 {P : Stmt → Prop} {x : Stmt} {k : Expr → Expr → (List Stmt) → (List Stmt) → Bool} (h : sfoM x k = true) (g : ∀ t e b o p, k t e b o = true → P (.For t e b o p)) : P x :=
  sME h (fun _ _ h => absurd h Bool.false_ne_true) (fun _ _ _ h => absurd h Bool.false_ne_true) (fun _ _ h => absurd h Bool.false_ne_true) (fun _ h => absurd h Bool.false_ne_true) (fun _ _ _ h => absurd h Bool.false_ne_true) (fun _ _ _ _ h => absurd h Bool.false_ne_true) (fun _ _ _ _ h => absurd h Bool.false_ne_true) g (fun _ _ _ _ _ h => absurd h Bool.false_ne_true)
noncomputable def l0 {α : Type} (xs : List α) (b : Bool) : Bool := match xs with | [] => b | _ => false
@[elab_as_elim] theorem l0E {α : Type} {P : List α → Prop} {xs : List α} {b : Bool} (h : l0 xs b = true) (g : b = true → P []) : P xs := by
  cases xs with
  | nil => exact g h
  | cons _ _ => exact absurd h Bool.false_ne_true
noncomputable def lc {α : Type} (xs : List α) (k : α → List α → Bool) : Bool := match xs with | x :: r => k x r | _ => false
@[elab_as_elim] theorem lcE {α : Type} {P : List α → Prop} {xs : List α} {k : α → List α → Bool} (h : lc xs k = true) (g : ∀ x r, k x r = true → P (x :: r)) : P xs := by
  cases xs with
  | nil => exact absurd h Bool.false_ne_true
  | cons _ _ => exact g _ _ h
noncomputable def l1 {α : Type} (xs : List α) (k : α → Bool) : Bool := lc xs fun x r => l0 r (k x)
@[elab_as_elim] theorem l1E {α : Type} {P : List α → Prop} {xs : List α} {k : α → Bool} (h : l1 xs k = true) (g : ∀ x, k x = true → P [x]) : P xs :=
  lcE h fun _ _ h => l0E h fun h => g _ h
noncomputable def l2 {α : Type} (xs : List α) (k : α → α → Bool) : Bool := lc xs fun x r => l1 r (k x)
@[elab_as_elim] theorem l2E {α : Type} {P : List α → Prop} {xs : List α} {k : α → α → Bool} (h : l2 xs k = true) (g : ∀ x y, k x y = true → P [x, y]) : P xs :=
  lcE h fun _ _ h => l1E h fun _ h => g _ _ h
noncomputable def l3 {α : Type} (xs : List α) (k : α → α → α → Bool) : Bool := lc xs fun x r => l2 r (k x)
@[elab_as_elim] theorem l3E {α : Type} {P : List α → Prop} {xs : List α} {k : α → α → α → Bool} (h : l3 xs k = true) (g : ∀ x y z, k x y z = true → P [x, y, z]) : P xs :=
  lcE h fun _ _ h => l2E h fun _ _ h => g _ _ _ h
noncomputable def o0 {α : Type} (o : Option α) (b : Bool) : Bool := match o with | none => b | _ => false
@[elab_as_elim] theorem o0E {α : Type} {P : Option α → Prop} {o : Option α} {b : Bool} (h : o0 o b = true) (g : b = true → P none) : P o := by
  cases o with
  | none => exact g h
  | some _ => exact absurd h Bool.false_ne_true
noncomputable def o1 {α : Type} (o : Option α) (k : α → Bool) : Bool := match o with | some x => k x | _ => false
@[elab_as_elim] theorem o1E {α : Type} {P : Option α → Prop} {o : Option α} {k : α → Bool} (h : o1 o k = true) (g : ∀ x, k x = true → P (some x)) : P o := by
  cases o with
  | none => exact absurd h Bool.false_ne_true
  | some _ => exact g _ h
noncomputable def ncM (x : Expr) (k : Str → List Expr → Bool) : Bool := caM x fun f xs ks _ => nmM f fun id => l0 ks (k id xs)
@[elab_as_elim] theorem ncME {P : Expr → Prop} {x : Expr} {k : Str → List Expr → Bool} (h : ncM x k = true) (g : ∀ id np xs p, k id xs = true → P (.Call (.Name id np) xs [] p)) : P x :=
  caME h fun _ _ _ _ h => nmME h fun _ _ h => l0E h fun h => g _ _ _ _ h
noncomputable def acM (x : Expr) (k : Expr → Str → Pos → List Expr → Pos → Bool) : Bool := caM x fun f xs ks p => atM f fun y id q => l0 ks (k y id q xs p)
@[elab_as_elim] theorem acME {P : Expr → Prop} {x : Expr} {k : Expr → Str → Pos → List Expr → Pos → Bool} (h : acM x k = true) (g : ∀ y id q xs p, k y id q xs p = true → P (.Call (.Attribute y id q) xs [] p)) : P x :=
  caME h fun _ _ _ _ h => atME h fun _ _ _ h => l0E h fun h => g _ _ _ _ _ h
noncomputable def cp1M (x : Expr) (k : Expr → CmpOp → Expr → Bool) : Bool := cpM x fun l ops rs => l1 ops fun op => l1 rs fun r => k l op r
@[elab_as_elim] theorem znR {P : Expr → Prop} {x : Expr} {k : Expr → CmpOp → Expr → Bool} (h : cp1M x k = true) (g : ∀ l op r p, k l op r = true → P (.Compare l [op] [r] p)) : P x :=
  cpME h fun _ _ _ _ h => l1E h fun _ h => l1E h fun _ h => g _ _ _ _ h
noncomputable def cp2M (x : Expr) (k : Expr → CmpOp → CmpOp → Expr → Expr → Bool) : Bool := cpM x fun l ops rs => l2 ops fun o₁ o₂ => l2 rs fun m r => k l o₁ o₂ m r
@[elab_as_elim] theorem znQ {P : Expr → Prop} {x : Expr} {k : Expr → CmpOp → CmpOp → Expr → Expr → Bool} (h : cp2M x k = true) (g : ∀ l o₁ o₂ m r p, k l o₁ o₂ m r = true → P (.Compare l [o₁, o₂] [m, r] p)) : P x :=
  cpME h fun _ _ _ _ h => l2E h fun _ _ h => l2E h fun _ _ h => g _ _ _ _ _ _ h
noncomputable def sl0M (x : Expr) (k : Expr → Option Expr → Option Expr → Bool) : Bool := suM x fun y z => slM z fun l u st => o0 st (k y l u)
@[elab_as_elim] theorem znp {P : Expr → Prop} {x : Expr} {k : Expr → Option Expr → Option Expr → Bool} (h : sl0M x k = true) (g : ∀ y l u q p, k y l u = true → P (.Subscript y (.Slice l u none q) p)) : P x :=
  suME h fun _ _ _ h => slME h fun _ _ _ _ h => o0E h fun h => g _ _ _ _ _ h
noncomputable def zd6 (x : Expr) : Bool := !(ncM x fun _ xs => xs.isEmpty)
noncomputable def tgOf : Tg → List Nat
  | .one x => [x]
noncomputable def zeW (S : Sc) : Tg → Expr → Bool
  | .one i, x => nmM x fun id => S.own id i
mutual
noncomputable def za8 (S : Sc) : Ex → Expr → Bool
  | .none, x => cM x fun c => decide (c = .none)
  | .tt, x => cM x fun c => decide (c = .bool true)
  | .ff, x => cM x fun c => decide (c = .bool false)
  | .int i, x => cM x fun c => decide (c = .int i)
  | .str t, x => cM x fun c => decide (c = .str (Str.ofString t))
  | .var i, x => nmM x fun id => S.var id i
  | .glob g, x => nmM x fun id => S.glb id g
  | .bin op a b, x => biM x fun l op' r => decide (op' = op) && za8 S a l && za8 S b r
  | .neg a, x => unM x fun op l => decide (op = .USub) && za8 S a l
  | .not a, x => unM x fun op l => decide (op = .Not) && za8 S a l
  | .cmp op a b, x => cp1M x fun l op' r => decide (op' = op) && za8 S a l && za8 S b r
  | .cmp2 o₁ o₂ a b c, x => cp2M x fun l p₁ p₂ m r => decide (p₁ = o₁) && decide (p₂ = o₂) && za8 S a l && za8 S b m && za8 S c r
  | .bool isAnd es, x => boM x fun op xs => decide (op = if isAnd then .And else .Or) && zbu S es xs
  | .call f es, x => ncM x fun id xs => S.glb id f && zbu S es xs
  | .make c es, x => ncM x fun id xs => decide (c ≠ "") && S.glb id c && zbu S es xs
  | .meth o name es, x => acM x fun y id apos xs pos => decide (id = Str.ofString name) && (apos.endLine == pos.line) && zd6 y && decide (xs.length < 30) && za8 S o y && zbu S es xs
  | .m1 o m a, x => acM x fun y id apos xs pos => l1 xs fun z => decide (id = Str.ofString (znz m)) && (apos.endLine == pos.line) && zd6 y && za8 S o y && za8 S a z
  | .attr o name, x => atM x fun y id _ => decide (id = Str.ofString name) && zd6 y && za8 S o y
  | .idx o i, x => suM x fun y z => za8 S o y && za8 S i z
  | .slice o lo hi, x => sl0M x fun y l h => za8 S o y && zeX S lo l && zeX S hi h
  | .list es, x => liM x fun xs => zbu S es xs
  | .tuple es, x => tuM x fun xs => zbu S es xs
  | .dict0, x => diM x fun ks vs => l0 ks (l0 vs true)
  | .comp bs elt t it cond, x => lcM x fun y gs scope => l1 gs fun g => ziw S bs scope && zeW (zcI S bs scope.names) t g.target && decide (tgOf t = bs.map (·.2)) && za8 S it g.iter && za8 (zcI S bs scope.names) elt y && zd9 (zcI S bs scope.names) cond g.ifs && decide (g.is_async = 0)
  | .b1 f e, x => ncM x fun id xs => l1 xs fun y => S.glb id (zkB f) && za8 S e y
  | .isin e t, x => ncM x fun id xs => l2 xs fun y z => nmM z fun id' => S.glb id "isinstance" && S.glb id' (zlK t) && za8 S e y
  | .range1 a, x => ncM x fun id xs => l1 xs fun y => S.glb id "range" && za8 S a y
  | .range2 a b, x => ncM x fun id xs => l2 xs fun y z => S.glb id "range" && za8 S a y && za8 S b z
  | .range3 a b c, x => ncM x fun id xs => l3 xs fun y z w => S.glb id "range" && za8 S a y && za8 S b z && za8 S c w
noncomputable def zbu (S : Sc) : Exs → List Expr → Bool
  | .nil, xs => l0 xs true
  | .cons e es, xs => lc xs fun x r => za8 S e x && zbu S es r
noncomputable def zeX (S : Sc) : ExO → Option Expr → Bool
  | .none, o => o0 o true
  | .some e, o => o1 o fun x => za8 S e x
noncomputable def zd9 (S : Sc) : ExO → List Expr → Bool
  | .none, xs => l0 xs true
  | .some e, xs => l1 xs fun x => za8 S e x
end
theorem zbQ {S : Sc} : zbu S .nil [] = true := rfl
theorem zbR {S : Sc} {x : Expr} {xs : List Expr} : zbu S .nil (x :: xs) = false := rfl
theorem zbS {S : Sc} {e : Ex} {es : Exs} : zbu S (.cons e es) [] = false := rfl
theorem zbT {S : Sc} {e : Ex} {es : Exs} {x : Expr} {xs : List Expr} : zbu S (.cons e es) (x :: xs) = (za8 S e x && zbu S es xs) := rfl
theorem zmu {S : Sc} : zeX S .none none = true := rfl
theorem zmt {S : Sc} {x : Expr} : zeX S .none (some x) = false := rfl
theorem zms {S : Sc} {e : Ex} : zeX S (.some e) none = false := rfl
theorem zmr {S : Sc} {e : Ex} {x : Expr} : zeX S (.some e) (some x) = za8 S e x := rfl
theorem zli {S : Sc} : zd9 S .none [] = true := rfl
theorem zlj {S : Sc} {x : Expr} {xs : List Expr} : zd9 S .none (x :: xs) = false := rfl
theorem zlf {S : Sc} {e : Ex} : zd9 S (.some e) [] = false := rfl
theorem zlh {S : Sc} {e : Ex} {x : Expr} : zd9 S (.some e) [x] = za8 S e x := rfl
theorem zlg {S : Sc} {e : Ex} {x y : Expr} {r : List Expr} : zd9 S (.some e) (x :: y :: r) = false := rfl
theorem zjb {S : Sc} {e : Ex} {v : Expr} {p : Pos} : za8 S e (.Starred v p) = false := by cases e <;> rfl
theorem zgZ {S : Sc} {e : Ex} {v : List Expr} {k : Nat} {p : Pos} : za8 S e (.Set v k p) = false := by cases e <;> rfl
theorem zbU {S : Sc} {e : Ex} {x : Expr} {rest : List Expr} {env : Env} (h : za8 S e x = true) : starEach (x :: rest) env = (false, eval x env) :: starEach rest env := by
  cases x <;> first | rfl | (rw [zjb] at h; cases h)
theorem zha {S : Sc} {e : Ex} {x : Expr} {env : Env} (h : za8 S e x = true) (v : Value) : foldedSetIterable x env v = pure v := by
  cases x <;> first | rfl | (rw [zgZ] at h; cases h)
theorem zeE {S : Sc} {e : Ex} {x : Expr} {op : CmpOp} (h : za8 S e x = true) : behindInMarks op x = false := by
  cases x <;> first | rfl | (rw [zgZ] at h; cases h)
theorem zh2 {x : Expr} {name : Str} {env : Env} (h : zd6 x = true) (t : Sem Value) : attributeBase x name env t = t := by
  cases x with
  | Call f xs ks p => cases f with
    | Name _ _ => cases xs with
      | nil => cases ks with
        | nil => exact Bool.noConfusion h
        | cons _ _ => rfl
      | cons _ _ => rfl
    | _ => rfl
  | _ => rfl
noncomputable def zj8 (e : Ex) : Bool := e.ctorIdx == 23
noncomputable def zmo (x : PySem.Expr) : Bool := !(x.ctorIdx == 8 || x.ctorIdx == 9 || x.ctorIdx == 10)
mutual
noncomputable def zlT (S : Sc) : St → Stmt → Bool
  | .expr e, s => sxM s fun x => za8 S e x && zmo x
  | .assign t e, s => sasM s fun ts x => l1 ts fun tg => zeW S t tg && za8 S e x && (zj8 e || zmo x)
  | .setattr o name e, s => sasM s fun ts z => l1 ts fun tg => atM tg fun y id _ => decide (id = Str.ofString name) && za8 S o y && za8 S e z
  | .setitem o i e, s => sasM s fun ts z => l1 ts fun tg => suM tg fun y w => za8 S o y && za8 S i w && za8 S e z
  | .ret e, s => sreM s fun o => o1 o fun x => za8 S e x
  | .raise _ _, _ => true
  | .iff c th el, s => sifM s fun x b o => za8 S c x && zdf S th b && zdf S el o
  | .whil c body, s => swhM s fun x b o => l0 o (za8 S c x && zdf S body b)
  | .for t it body, s => sfoM s fun tg x b o => l0 o (zeW S t tg && za8 S it x && zdf S body b)
noncomputable def zdf (S : Sc) : Sts → List Stmt → Bool
  | .nil, xs => l0 xs true
  | .cons s r, xs => lc xs fun x xs => zlT S s x && zdf S r xs
end
end Mine
end
section
set_option linter.unusedVariables false
set_option maxRecDepth 100000
namespace Mine
open PySem PySem.W PySem.Calls PyProof.Rows
noncomputable def bNames : List (String × Value) := [("len", .builtin "len"), ("list", .type "list"), ("sorted", .builtin "sorted"), ("int", .type "int"), ("all", .builtin "all"), ("any", .builtin "any"), ("tuple", .type "tuple"), ("dict", .type "dict"),
  ("set", .type "set"), ("max", .builtin "max"), ("min", .builtin "min"), ("isinstance", .builtin "isinstance"), ("range", .type "range"), ("enumerate", .type "enumerate"), ("bool", .type "bool"), ("str", .type "str"), ("ValueError", .type "ValueError")]
noncomputable def scOf (F : Fn) (names : List (Str × NameKind)) : Sc := ⟨names, F.names.zipIdx, F.size⟩
noncomputable def zgb (fd : FuncData) (ps : List String) : Bool := fd.params.posonlyargs.isEmpty && (fd.params.args.map (·.arg) == ps.map Str.ofString) && fd.params.vararg.isNone && fd.params.kwonlyargs.isEmpty && fd.params.kwarg.isNone && (match fd.defaults with | .none => true | _ => false) && decide ((ps.map Str.ofString).Nodup)
structure Tabs where
  cls : List (String × Addr)
  fn : List ((String × String) × Addr)
  fld : List (String × String)
noncomputable def isFd (K : Frag) (a : Addr) : Bool := match K.lookup a with | some ⟨_, _, .func _, _⟩ => true | _ => false
noncomputable def fdOf (K : Frag) (a : Addr) : FuncData := match K.lookup a with | some ⟨_, _, .func fd, _⟩ => fd | _ => default
noncomputable def zfP (K : Frag) (Cl : Addr) : Bool := plainGet K Cl ("x" : Str) && findIn K (.ref Cl) "__setattr__" == some (some (.builtin "object.__setattr__")) && plainOver K Cl && hasDictIn K Cl
noncomputable def zdJ (K : Frag) (T : Tabs) : Bool :=
  bNames.all (fun p => nsIn K mainGlobals (Str.ofString p.1) == some none) &&
  (match nsIn K mainGlobals "MOST_PLACES" with | some (some (.int i _)) => i == 40 | _ => false) &&
  T.cls.all (fun p => p.1 != "" && nsIn K mainGlobals (Str.ofString p.1) == some (some (.ref p.2))) &&
  T.fn.all (fun p => isFd K p.2 && if p.1.1 == "" then nsIn K mainGlobals (Str.ofString p.1.2) == some (some (.ref p.2)) else match T.cls.lookup p.1.1 with
    | some Cl => zfP K Cl && findIn K (.ref Cl) (Str.ofString p.1.2) == some (some (.ref p.2)) && isFn K (.ref p.2) && typeIn K (.ref p.2) == some (.type "function") && (p.1.2 != "__init__" || (keepIn K (.ref Cl) && makesIn K Cl))
    | none => false) &&
  T.fld.all (fun p => match T.cls.lookup p.1 with | some Cl => zfP K Cl && findIn K (.ref Cl) (Str.ofString p.2) == some none | none => false)
noncomputable def zhU (K : Frag) (a : Addr) (F : Fn) : Bool := match fdOf K a with
  | fd => match fd.body with
    | .stmts body => isFd K a && fd.globals == mainGlobals && fd.builtins == builtinsNs && fd.closure.isEmpty && fd.scope.kind == .function && !fd.scope.isCoroutine && !fd.scope.isGenerator && codeIn K fd.code fd.qualname &&
        zdf (scOf F fd.scope.names) F.body body && F.params.all (fun x => fd.scope.names.lookup (Str.ofString x) == some .local || fd.scope.names.lookup (Str.ofString x) == some .cell) && fd.scope.names.all (fun p => p.2 != .free) &&
        decide F.names.Nodup && decide (F.names.length ≤ F.size) && decide (F.params <+: F.names)
    | _ => false
noncomputable def zcG (h : Heap) (k : Frag → Bool) : List Addr → Frag → Bool
  | [], acc => k acc
  | a :: as, acc => match h.get? a with
    | some o => zcG h k as ((a, o) :: acc)
    | none => zcG h k as acc
noncomputable def zbY (T : Tabs) (fns : List ((String × String) × Fn)) (K : Frag) : Bool := fns.all fun p => match T.fn.lookup p.1 with
  | some a => zhU K a p.2 && zgb (fdOf K a) p.2.params
  | none => false
noncomputable def obs1 (T : Tabs) (fns : List ((String × String) × Fn)) (law : Addr) (n i : Nat) (s : Shared) : Bool := zcG s.heap (fun K => zdJ K T && zbY T (fns.take i) K && (nsIn K mainGlobals (Str.ofString "law") == some (some (.ref law)))) (List.range n) []
noncomputable def obs2 (T : Tabs) (fns : List ((String × String) × Fn)) (n i : Nat) (s : Shared) : Bool := zcG s.heap (zbY T (fns.drop i)) (List.range n) []
end Mine
end
section
namespace Mine
open PySem
noncomputable def zf5 : Fn := ⟨["thing", "size"], ["thing", "size"], 2,
  .cons (.ret (.bool true (.cons (.isin (.var 0) .int) (.cons (.not (.isin (.var 0) .bool)) (.cons (.cmp2 .LtE .Lt (.int 0) (.var 0) (.var 1)) .nil))))) (
  .nil)⟩
noncomputable def ziP : Fn := ⟨["thing", "size"], ["thing", "size"], 2,
  .cons (.iff (.bool false (.cons (.not (.isin (.var 0) .tuple)) (.cons (.cmp .NotEq (.b1 .len (.var 0)) (.int 2)) .nil))) (.cons (.ret (.ff)) (
    .nil)) (.nil)) (
  .cons (.ret (.bool true (.cons (.call "is_place" (.cons (.idx (.var 0) (.int 0)) (.cons (.var 1) .nil))) (.cons (.call "is_place" (.cons (.idx (.var 0) (.int 1)) (.cons (.var 1) .nil))) (.cons (.cmp .Lt (.idx (.var 0) (.int 0)) (.idx (.var 0) (.int 1))) .nil))))) (
  .nil))⟩
noncomputable def zdC : Sts := .cons (.setitem (.var 3) (.var 4) (.tt)) (
  .cons (.expr (.m1 (.idx (.attr (.var 0) "rows") (.idx (.var 4) (.int 0))) .append (.idx (.var 4) (.int 1)))) (
  .cons (.expr (.m1 (.idx (.attr (.var 0) "rows") (.idx (.var 4) (.int 1))) .append (.idx (.var 4) (.int 0)))) (
  .nil)))
noncomputable def zdF : Sts := .cons (.iff (.bool false (.cons (.not (.call "is_tie" (.cons (.var 4) (.cons (.var 1) .nil)))) (.cons (.cmp .In (.var 4) (.var 3)) .nil))) (.cons (.raise "BadNet" "no tie, or one that is told twice") (
    .nil)) (.nil)) (
  zdC)
noncomputable def zdB : Sts := .cons (.setattr (.var 0) "rows" (.comp [("row", 6)] (.b1 .sorted (.var 6)) (.one 6) (.attr (.var 0) "rows") .none)) (
  .nil)
noncomputable def zdA : Sts := .cons (.assign (.one 3) (.dict0)) (
  .cons (.for (.one 4) (.var 2) (zdF)) (
  zdB))
noncomputable def zey : Sts := .cons (.setattr (.var 0) "size" (.var 1)) (
  .cons (.setattr (.var 0) "rows" (.comp [("place", 5)] (.list (.nil)) (.one 5) (.range1 (.var 1)) .none)) (
  zdA))
noncomputable def zen : Fn := ⟨["self", "size", "ties"], ["self", "size", "ties", "seen", "tie"], 7,
  .cons (.iff (.bool false (.cons (.not (.call "is_place" (.cons (.var 1) (.cons (.bin .Add (.glob "MOST_PLACES") (.int 1)) .nil)))) (.cons (.cmp .Lt (.var 1) (.int 1)) (.cons (.not (.isin (.var 2) .list)) .nil)))) (.cons (.raise "BadNet" "no net") (
    .nil)) (.nil)) (
  zey)⟩
noncomputable def zeA : Sts := .cons (.iff (.cmp .Lt (.var 2) (.var 3)) (.cons (.expr (.m1 (.var 1) .append (.tuple (.cons (.var 2) (.cons (.var 3) .nil))))) (
    .nil)) (.nil)) (
  .nil)
noncomputable def zez : Sts := .cons (.for (.one 3) (.idx (.attr (.var 0) "rows") (.var 2)) (zeA)) (
  .nil)
noncomputable def zex : Sts := .cons (.ret (.var 1)) (
  .nil)
noncomputable def zem : Fn := ⟨["self"], ["self", "found", "place", "other"], 4,
  .cons (.assign (.one 1) (.list (.nil))) (
  .cons (.for (.one 2) (.range1 (.attr (.var 0) "size")) (zez)) (
  zex))⟩
noncomputable def zdT : Sts := .cons (.ret (.b1 .list (.idx (.attr (.var 0) "rows") (.var 1)))) (
  .nil)
noncomputable def zdG : Fn := ⟨["self", "place"], ["self", "place"], 2,
  .cons (.iff (.not (.call "is_place" (.cons (.var 1) (.cons (.attr (.var 0) "size") .nil)))) (.cons (.raise "NoPlace" "no such place") (
    .nil)) (.nil)) (
  zdT)⟩
noncomputable def zho : Sts := .cons (.iff (.bool false (.cons (.cmp .GtE (.idx (.var 2) (.idx (.var 3) (.int 0))) (.int 0)) (.cons (.cmp .GtE (.idx (.var 2) (.idx (.var 3) (.int 1))) (.int 0)) .nil))) (.cons (.raise "BadPairs" "a place in two pairs") (
    .nil)) (.nil)) (
  .cons (.setitem (.var 2) (.idx (.var 3) (.int 0)) (.idx (.var 3) (.int 1))) (
  .cons (.setitem (.var 2) (.idx (.var 3) (.int 1)) (.idx (.var 3) (.int 0))) (
  .nil)))
noncomputable def zfp : Sts := .cons (.iff (.bool false (.cons (.not (.call "is_tie" (.cons (.var 3) (.cons (.attr (.var 0) "size") .nil)))) (.cons (.cmp .NotIn (.idx (.var 3) (.int 1)) (.idx (.attr (.var 0) "rows") (.idx (.var 3) (.int 0)))) .nil))) (.cons (.raise "BadPairs" "a pair that is no tie") (
    .nil)) (.nil)) (
  zho)
noncomputable def zhn : Sts := .cons (.ret (.var 2)) (
  .nil)
noncomputable def zhm : Sts := .cons (.for (.one 3) (.var 1) (zfp)) (
  zhn)
noncomputable def zh5 : Fn := ⟨["net", "pairs"], ["net", "pairs", "found", "pair"], 5,
  .cons (.iff (.not (.isin (.var 1) .list)) (.cons (.raise "BadPairs" "no list") (
    .nil)) (.nil)) (
  .cons (.assign (.one 2) (.comp [("place", 4)] (.neg (.int 1)) (.one 4) (.range1 (.attr (.var 0) "size")) .none)) (
  zhm))⟩
noncomputable def zkN : Fn := ⟨["mate"], ["mate"], 2,
  .cons (.ret (.comp [("place", 1)] (.tuple (.cons (.var 1) (.cons (.idx (.var 0) (.var 1)) .nil))) (.one 1) (.range1 (.b1 .len (.var 0))) (.some (.cmp .Gt (.idx (.var 0) (.var 1)) (.var 1))))) (
  .nil)⟩
noncomputable def zfW : Sts := .cons (.setitem (.var 3) (.var 4) (.tt)) (
  .nil)
noncomputable def zf2 : Sts := .cons (.iff (.bool false (.cons (.not (.call "is_place" (.cons (.var 4) (.cons (.attr (.var 0) "size") .nil)))) (.cons (.cmp .In (.var 4) (.var 3)) .nil))) (.cons (.ret (.ff)) (
    .nil)) (.nil)) (
  zfW)
noncomputable def zf1 : Sts := .cons (.iff (.cmp .NotIn (.idx (.var 2) (.bin .Add (.var 5) (.int 1))) (.idx (.attr (.var 0) "rows") (.idx (.var 2) (.var 5)))) (.cons (.ret (.ff)) (
    .nil)) (.nil)) (
  .cons (.iff (.cmp .NotEq (.cmp .Eq (.idx (.var 1) (.idx (.var 2) (.var 5))) (.idx (.var 2) (.bin .Add (.var 5) (.int 1)))) (.cmp .Eq (.bin .Mod (.var 5) (.int 2)) (.int 1))) (.cons (.ret (.ff)) (
    .nil)) (.nil)) (
  .nil))
noncomputable def T_is_way_2 : Sts := .cons (.ret (.tt)) (
  .nil)
noncomputable def zei : Sts := .cons (.iff (.bool false (.cons (.cmp .GtE (.idx (.var 1) (.idx (.var 2) (.int 0))) (.int 0)) (.cons (.cmp .GtE (.idx (.var 1) (.idx (.var 2) (.neg (.int 1)))) (.int 0)) .nil))) (.cons (.ret (.ff)) (
    .nil)) (.nil)) (
  .cons (.for (.one 5) (.range1 (.bin .Sub (.b1 .len (.var 2)) (.int 1))) (zf1)) (
  T_is_way_2))
noncomputable def zgB : Fn := ⟨["net", "mate", "way"], ["net", "mate", "way", "seen", "place", "k"], 6,
  .cons (.iff (.bool false (.cons (.not (.isin (.var 2) .list)) (.cons (.cmp .Lt (.b1 .len (.var 2)) (.int 2)) (.cons (.cmp .Eq (.bin .Mod (.b1 .len (.var 2)) (.int 2)) (.int 1)) .nil)))) (.cons (.ret (.ff)) (
    .nil)) (.nil)) (
  .cons (.assign (.one 3) (.dict0)) (
  .cons (.for (.one 4) (.var 2) (zf2)) (
  zei)))⟩
noncomputable def zf0 : Sts := .cons (.setitem (.var 3) (.idx (.var 2) (.var 4)) (.idx (.var 2) (.bin .Add (.var 4) (.int 1)))) (
  .cons (.setitem (.var 3) (.idx (.var 2) (.bin .Add (.var 4) (.int 1))) (.idx (.var 2) (.var 4))) (
  .nil))
noncomputable def zfV : Sts := .cons (.ret (.call "told" (.cons (.var 3) .nil))) (
  .nil)
noncomputable def zfU : Sts := .cons (.for (.one 4) (.range3 (.int 0) (.b1 .len (.var 2)) (.int 2)) (zf0)) (
  zfV)
noncomputable def zfT : Sts := .cons (.iff (.not (.call "is_way" (.cons (.var 0) (.cons (.var 3) (.cons (.var 2) .nil))))) (.cons (.raise "BadWay" "no way") (
    .nil)) (.nil)) (
  zfU)
noncomputable def zgA : Fn := ⟨["net", "pairs", "way"], ["net", "pairs", "way", "mate", "k"], 5,
  .cons (.assign (.one 3) (.call "mates" (.cons (.var 0) (.cons (.var 1) .nil)))) (
  zfT)⟩
noncomputable def zdz : Sts := .cons (.setattr (.var 0) "waiting" (.list (.cons (.var 3) .nil))) (
  .nil)
noncomputable def zdy : Sts := .cons (.setattr (.var 0) "outer" (.comp [("place", 6)] (.cmp .Eq (.var 6) (.var 3)) (.one 6) (.range1 (.attr (.var 1) "size")) .none)) (
  zdz)
noncomputable def zdx : Sts := .cons (.setattr (.var 0) "base" (.comp [("place", 5)] (.var 5) (.one 5) (.range1 (.attr (.var 1) "size")) .none)) (
  zdy)
noncomputable def zdw : Sts := .cons (.setattr (.var 0) "back" (.comp [("place", 4)] (.neg (.int 1)) (.one 4) (.range1 (.attr (.var 1) "size")) .none)) (
  zdx)
noncomputable def zdv : Sts := .cons (.setattr (.var 0) "root" (.var 3)) (
  zdw)
noncomputable def zdu : Sts := .cons (.setattr (.var 0) "mate" (.var 2)) (
  zdv)
noncomputable def zc7 : Fn := ⟨["self", "net", "mate", "root"], ["self", "net", "mate", "root"], 7,
  .cons (.setattr (.var 0) "ground" (.var 1)) (
  zdu)⟩
noncomputable def zcr : Sts := .cons (.setitem (.var 3) (.var 4) (.tt)) (
  .nil)
noncomputable def zct : Sts := .cons (.assign (.one 4) (.idx (.attr (.var 0) "base") (.idx (.attr (.var 0) "back") (.idx (.attr (.var 0) "mate") (.var 4))))) (
  zcr)
noncomputable def zcs : Sts := .cons (.assign (.one 4) (.idx (.attr (.var 0) "base") (.idx (.attr (.var 0) "back") (.idx (.attr (.var 0) "mate") (.var 4))))) (
  .nil)
noncomputable def zcq : Sts := .cons (.ret (.var 4)) (
  .nil)
noncomputable def zcp : Sts := .cons (.whil (.cmp .NotIn (.var 4) (.var 3)) (zcs)) (
  zcq)
noncomputable def zco : Sts := .cons (.assign (.one 4) (.idx (.attr (.var 0) "base") (.var 2))) (
  zcp)
noncomputable def zcn : Sts := .cons (.whil (.cmp .GtE (.idx (.attr (.var 0) "mate") (.var 4)) (.int 0)) (zct)) (
  zco)
noncomputable def zcm : Sts := .cons (.setitem (.var 3) (.var 4) (.tt)) (
  zcn)
noncomputable def zcl : Sts := .cons (.assign (.one 4) (.idx (.attr (.var 0) "base") (.var 1))) (
  zcm)
noncomputable def zb2 : Fn := ⟨["self", "one", "other"], ["self", "one", "other", "seen", "place"], 5,
  .cons (.assign (.one 3) (.dict0)) (
  zcl)⟩
noncomputable def zcR : Sts := .cons (.assign (.one 1) (.idx (.attr (.var 0) "back") (.var 3))) (
  .nil)
noncomputable def zcQ : Sts := .cons (.assign (.one 3) (.idx (.attr (.var 0) "mate") (.var 1))) (
  zcR)
noncomputable def zcP : Sts := .cons (.setitem (.attr (.var 0) "back") (.var 1) (.var 3)) (
  zcQ)
noncomputable def zcO : Sts := .cons (.setitem (.var 4) (.idx (.attr (.var 0) "base") (.idx (.attr (.var 0) "mate") (.var 1))) (.tt)) (
  zcP)
noncomputable def zcT : Sts := .cons (.setitem (.var 4) (.idx (.attr (.var 0) "base") (.var 1)) (.tt)) (
  zcO)
noncomputable def zcg : Fn := ⟨["self", "place", "meet", "child", "ring"], ["self", "place", "meet", "child", "ring"], 5,
  .cons (.whil (.cmp .NotEq (.idx (.attr (.var 0) "base") (.var 1)) (.var 2)) (zcT)) (
  .nil)⟩
noncomputable def zcN : Sts := .cons (.expr (.m1 (.attr (.var 0) "waiting") .append (.var 5))) (
      .nil)
noncomputable def zcM : Sts := .cons (.iff (.not (.idx (.attr (.var 0) "outer") (.var 5))) (.cons (.setitem (.attr (.var 0) "outer") (.var 5) (.tt)) (
      zcN)) (.nil)) (
    .nil)
noncomputable def zcS : Sts := .cons (.iff (.cmp .In (.idx (.attr (.var 0) "base") (.var 5)) (.var 4)) (.cons (.setitem (.attr (.var 0) "base") (.var 5) (.var 3)) (
    zcM)) (.nil)) (
  .nil)
noncomputable def zbX : Sts := .cons (.for (.one 5) (.range1 (.attr (.attr (.var 0) "ground") "size")) (zcS)) (
  .nil)
noncomputable def zcL : Sts := .cons (.expr (.meth (.var 0) "marked" (.cons (.var 2) (.cons (.var 3) (.cons (.var 1) (.cons (.var 4) .nil)))))) (
  zbX)
noncomputable def zcK : Sts := .cons (.expr (.meth (.var 0) "marked" (.cons (.var 1) (.cons (.var 3) (.cons (.var 2) (.cons (.var 4) .nil)))))) (
  zcL)
noncomputable def zcJ : Sts := .cons (.assign (.one 4) (.dict0)) (
  zcK)
noncomputable def zcf : Fn := ⟨["self", "one", "other"], ["self", "one", "other", "meet", "ring", "place"], 6,
  .cons (.assign (.one 3) (.meth (.var 0) "meeting" (.cons (.var 1) (.cons (.var 2) .nil)))) (
  zcJ)⟩
noncomputable def zce : Sts := .cons (.ret (.ff)) (
    .nil)
noncomputable def zdt : Sts := .cons (.ret (.ff)) (
  .nil)
noncomputable def zds : Sts := .cons (.expr (.m1 (.attr (.var 0) "waiting") .append (.idx (.attr (.var 0) "mate") (.var 2)))) (
  zdt)
noncomputable def zdr : Sts := .cons (.setitem (.attr (.var 0) "outer") (.idx (.attr (.var 0) "mate") (.var 2)) (.tt)) (
  zds)
noncomputable def zdq : Sts := .cons (.iff (.cmp .Lt (.idx (.attr (.var 0) "mate") (.var 2)) (.int 0)) (.cons (.ret (.tt)) (
    .nil)) (.nil)) (
  zdr)
noncomputable def zdp : Sts := .cons (.setitem (.attr (.var 0) "back") (.var 2) (.var 1)) (
  zdq)
noncomputable def zbP : Sts := .cons (.iff (.cmp .GtE (.idx (.attr (.var 0) "back") (.var 2)) (.int 0)) (.cons (.ret (.ff)) (
    .nil)) (.nil)) (
  zdp)
noncomputable def zdo : Sts := .cons (.iff (.bool false (.cons (.cmp .Eq (.var 2) (.attr (.var 0) "root")) (.cons (.bool true (.cons (.cmp .GtE (.idx (.attr (.var 0) "mate") (.var 2)) (.int 0)) (.cons (.cmp .GtE (.idx (.attr (.var 0) "back") (.idx (.attr (.var 0) "mate") (.var 2))) (.int 0)) .nil))) .nil))) (.cons (.expr (.meth (.var 0) "shrink" (.cons (.var 1) (.cons (.var 2) .nil)))) (
    zce)) (.nil)) (
  zbP)
noncomputable def zc6 : Fn := ⟨["self", "place", "other"], ["self", "place", "other"], 3,
  .cons (.iff (.bool false (.cons (.cmp .Eq (.idx (.attr (.var 0) "base") (.var 1)) (.idx (.attr (.var 0) "base") (.var 2))) (.cons (.cmp .Eq (.idx (.attr (.var 0) "mate") (.var 1)) (.var 2)) .nil))) (.cons (.ret (.ff)) (
    .nil)) (.nil)) (
  zdo)⟩
noncomputable def zdb : Sts := .cons (.iff (.meth (.var 0) "step" (.cons (.var 1) (.cons (.var 2) .nil))) (.cons (.ret (.var 2)) (
    .nil)) (.nil)) (
  .nil)
noncomputable def zb1 : Sts := .cons (.for (.one 2) (.idx (.attr (.attr (.var 0) "ground") "rows") (.var 1)) (zdb)) (
  .nil)
noncomputable def zc9 : Sts := .cons (.setattr (.var 0) "waiting" (.slice (.attr (.var 0) "waiting") (.some (.int 1)) .none)) (
  zb1)
noncomputable def zda : Sts := .cons (.assign (.one 1) (.idx (.attr (.var 0) "waiting") (.int 0))) (
  zc9)
noncomputable def zc8 : Sts := .cons (.ret (.neg (.int 1))) (
  .nil)
noncomputable def zcx : Fn := ⟨["self"], ["self", "place", "other"], 3,
  .cons (.whil (.cmp .Gt (.b1 .len (.attr (.var 0) "waiting")) (.int 0)) (zda)) (
  zc8)⟩
noncomputable def ziJ : Sts := .cons (.assign (.one 1) (.idx (.attr (.var 0) "mate") (.idx (.attr (.var 0) "back") (.var 1)))) (
  .nil)
noncomputable def ziI : Sts := .cons (.expr (.m1 (.var 2) .append (.idx (.attr (.var 0) "back") (.var 1)))) (
  ziJ)
noncomputable def ziN : Sts := .cons (.expr (.m1 (.var 2) .append (.var 1))) (
  ziI)
noncomputable def ziH : Sts := .cons (.ret (.var 2)) (
  .nil)
noncomputable def ziG : Sts := .cons (.whil (.cmp .GtE (.var 1) (.int 0)) (ziN)) (
  ziH)
noncomputable def zkO : Fn := ⟨["search", "end"], ["search", "end", "found"], 3,
  .cons (.assign (.one 2) (.list (.nil))) (
  ziG)⟩
noncomputable def zej : Sts := .cons (.iff (.cmp .GtE (.var 5) (.int 0)) (.cons (.ret (.call "road" (.cons (.var 4) (.cons (.var 5) .nil)))) (
      .nil)) (.nil)) (
    .nil)
noncomputable def zfZ : Sts := .cons (.assign (.one 5) (.meth (.var 4) "found" (.nil))) (
    zej)
noncomputable def zf3 : Sts := .cons (.iff (.cmp .Lt (.idx (.var 2) (.var 3)) (.int 0)) (.cons (.assign (.one 4) (.make "Search" (.cons (.var 0) (.cons (.var 2) (.cons (.var 3) .nil))))) (
    zfZ)) (.nil)) (
  .nil)
noncomputable def zfY : Sts := .cons (.ret (.none)) (
  .nil)
noncomputable def zfX : Sts := .cons (.for (.one 3) (.range1 (.attr (.var 0) "size")) (zf3)) (
  zfY)
noncomputable def zgC : Fn := ⟨["net", "pairs"], ["net", "pairs", "mate", "root", "search", "end"], 6,
  .cons (.assign (.one 2) (.call "mates" (.cons (.var 0) (.cons (.var 1) .nil)))) (
  zfX)⟩
noncomputable def zhq : Sts := .cons (.assign (.one 2) (.call "better" (.cons (.var 0) (.cons (.var 1) .nil)))) (
  .nil)
noncomputable def zhu : Sts := .cons (.assign (.one 1) (.call "turned" (.cons (.var 0) (.cons (.var 1) (.cons (.var 2) .nil))))) (
  zhq)
noncomputable def zhp : Sts := .cons (.ret (.var 1)) (
  .nil)
noncomputable def zfo : Sts := .cons (.whil (.cmp .IsNot (.var 2) (.none)) (zhu)) (
  zhp)
noncomputable def zh8 : Fn := ⟨["net", "pairs"], ["net", "pairs", "way"], 3,
  .cons (.assign (.one 2) (.call "better" (.cons (.var 0) (.cons (.var 1) .nil)))) (
  zfo)⟩
noncomputable def zkP : Fn := ⟨["net"], ["net"], 1,
  .cons (.ret (.call "grown" (.cons (.var 0) (.cons (.list .nil) .nil)))) (
  .nil)⟩
noncomputable def zfj : Sts := .cons (.ret (.var 3)) (
  .nil)
noncomputable def zfi : Sts := .cons (.iff (.cmp .Lt (.b1 .len (.var 3)) (.b1 .len (.call "most" (.cons (.var 0) .nil)))) (.cons (.ret (.none)) (
    .nil)) (.nil)) (
  zfj)
noncomputable def zfh : Sts := .cons (.assign (.one 3) (.call "most" (.cons (.var 2) .nil))) (
  zfi)
noncomputable def zfg : Sts := .cons (.assign (.one 2) (.make "Net" (.cons (.attr (.var 0) "size") (.cons (.comp [("tie", 4)] (.var 4) (.one 4) (.meth (.var 0) "ties" .nil) (.some (.cmp .NotIn (.var 1) (.var 4)))) .nil)))) (
  zfh)
noncomputable def zfu : Fn := ⟨["net", "place"], ["net", "place", "other", "found"], 5,
  .cons (.expr (.meth (.var 0) "beside" (.cons (.var 1) .nil))) (
  zfg)⟩
noncomputable def zff : Sts := .cons (.ret (.str "free")) (
  .nil)
noncomputable def zfe : Sts := .cons (.iff (.cmp .Is (.call "leaving" (.cons (.var 0) (.cons (.var 1) .nil))) (.none)) (.cons (.ret (.str "bound")) (
    .nil)) (.nil)) (
  zff)
noncomputable def zft : Fn := ⟨["net", "place"], ["net", "place"], 2,
  .cons (.iff (.cmp .Eq (.b1 .len (.meth (.var 0) "beside" (.cons (.var 1) .nil))) (.int 0)) (.cons (.ret (.str "loose")) (
    .nil)) (.nil)) (
  zfe)⟩
noncomputable def zhv : Sts := .cons (.iff (.bool true (.cons (.not (.idx (.var 1) (.var 3))) (.cons (.b1 .any (.comp [("other", 5)] (.idx (.var 1) (.var 5)) (.one 5) (.meth (.var 0) "beside" (.cons (.var 3) .nil)) .none)) .nil))) (.cons (.expr (.m1 (.var 2) .append (.var 3))) (
    .nil)) (.nil)) (
  .nil)
noncomputable def zht : Sts := .cons (.ret (.var 2)) (
  .nil)
noncomputable def zhs : Sts := .cons (.for (.one 3) (.range1 (.attr (.var 0) "size")) (zhv)) (
  zht)
noncomputable def zhr : Sts := .cons (.assign (.one 2) (.list (.nil))) (
  zhs)
noncomputable def zh9 : Fn := ⟨["net"], ["net", "lonely", "found", "place"], 6,
  .cons (.assign (.one 1) (.comp [("place", 4)] (.cmp .IsNot (.call "leaving" (.cons (.var 0) (.cons (.var 4) .nil))) (.none)) (.one 4) (.range1 (.attr (.var 0) "size")) .none)) (
  zhr)⟩
noncomputable def zh6 : Fn := ⟨["_law_found"], ["_law_found"], 1,
  .cons (.ret (.bool true (.cons (.isin (.var 0) .int) (.cons (.not (.isin (.var 0) .bool)) .nil)))) (
  .nil)⟩
noncomputable def zc5 : Fn := ⟨["_law_script", "_law_k"], ["_law_script", "_law_k"], 2,
  .cons (.iff (.cmp .Lt (.var 1) (.b1 .len (.var 0))) (.cons (.ret (.idx (.var 0) (.var 1))) (
    .nil)) (.nil)) (
  .cons (.ret (.int 0)) (
  .nil))⟩
noncomputable def zf4 : Fn := ⟨["_law_kind", "_law_cell", "_law_one", "_law_other", "_law_size"], ["_law_kind", "_law_cell", "_law_one", "_law_other", "_law_size"], 5,
  .cons (.iff (.cmp .Eq (.var 0) (.int 0)) (.cons (.ret (.cmp .Eq (.bin .Mod (.var 1) (.int 3)) (.int 0))) (
    .nil)) (.nil)) (
  .cons (.iff (.cmp .Eq (.var 0) (.int 1)) (.cons (.ret (.bool false (.cons (.cmp .Eq (.var 3) (.bin .Add (.var 2) (.int 1))) (.cons (.bool true (.cons (.cmp .Eq (.var 2) (.int 0)) (.cons (.cmp .Eq (.var 3) (.bin .Sub (.var 4) (.int 1))) .nil))) (.cons (.cmp .Eq (.bin .Mod (.var 1) (.int 11)) (.int 0)) .nil))))) (
    .nil)) (.nil)) (
  .cons (.iff (.cmp .Eq (.var 0) (.int 2)) (.cons (.ret (.bool true (.cons (.cmp .Eq (.bin .Mod (.bin .Add (.var 2) (.var 3)) (.int 2)) (.int 1)) (.cons (.cmp .Eq (.bin .Mod (.var 1) (.int 2)) (.int 0)) .nil)))) (
    .nil)) (.nil)) (
  .cons (.iff (.cmp .Eq (.var 0) (.int 3)) (.cons (.ret (.bool false (.cons (.bool true (.cons (.cmp .Lt (.var 2) (.int 2)) (.cons (.cmp .Gt (.bin .Mod (.var 1) (.int 3)) (.int 0)) .nil))) (.cons (.bool true (.cons (.cmp .Gt (.var 2) (.int 1)) (.cons (.cmp .Eq (.bin .FloorDiv (.bin .Sub (.var 2) (.int 2)) (.int 3)) (.bin .FloorDiv (.bin .Sub (.var 3) (.int 2)) (.int 3))) .nil))) .nil)))) (
    .nil)) (.nil)) (
  .cons (.ret (.cmp .Gt (.bin .Mod (.var 1) (.int 4)) (.int 0))) (
  .nil)))))⟩
noncomputable def zdn : Sts := .cons (.iff (.call "_law_tied" (.cons (.var 2) (.cons (.bin .FloorDiv (.var 7) (.bin .Add (.int 1) (.bin .Mod (.var 4) (.int 3)))) (.cons (.var 4) (.cons (.var 5) (.cons (.var 1) .nil)))))) (.cons (.expr (.m1 (.var 3) .append (.tuple (.cons (.var 4) (.cons (.var 5) .nil))))) (
    .nil)) (.nil)) (
  .nil)
noncomputable def zdE : Sts := .cons (.assign (.one 6) (.bin .Add (.bin .FloorDiv (.bin .Mult (.var 5) (.bin .Sub (.var 5) (.int 1))) (.int 2)) (.var 4))) (
  .cons (.assign (.one 7) (.bin .Add (.call "_law_cell_at" (.cons (.var 0) (.cons (.bin .Add (.int 3) (.bin .Mod (.var 6) (.int 24))) .nil))) (.bin .Mult (.bin .FloorDiv (.var 6) (.int 24)) (.int 7919)))) (
  zdn))
noncomputable def zdD : Sts := .cons (.for (.one 5) (.range2 (.bin .Add (.var 4) (.int 1)) (.var 1)) (zdE)) (
  .nil)
noncomputable def zdm : Sts := .cons (.ret (.var 3)) (
  .nil)
noncomputable def zc2 : Fn := ⟨["_law_script", "_law_size", "_law_kind"], ["_law_script", "_law_size", "_law_kind", "_law_found", "_law_one", "_law_other", "_law_at", "_law_cell"], 8,
  .cons (.assign (.one 3) (.list (.nil))) (
  .cons (.for (.one 4) (.range1 (.var 1)) (zdD)) (
  zdm))⟩
noncomputable def zc3 : Fn := ⟨["_law_script", "_law_bound"], ["_law_script", "_law_bound"], 2,
  .cons (.ret (.bin .Add (.int 1) (.bin .Mod (.call "_law_cell_at" (.cons (.var 0) (.cons (.int 0) .nil))) (.var 1)))) (
  .nil)⟩
noncomputable def zc4 : Fn := ⟨["_law_script"], ["_law_script"], 1,
  .cons (.ret (.bin .Mod (.call "_law_cell_at" (.cons (.var 0) (.cons (.int 1) .nil))) (.int 5))) (
  .nil)⟩
noncomputable def zh7 : Fn := ⟨["_law_script"], ["_law_script"], 1,
  .cons (.ret (.cmp .Eq (.bin .Mod (.bin .FloorDiv (.call "_law_cell_at" (.cons (.var 0) (.cons (.int 0) .nil))) (.int 11)) (.int 9)) (.int 4))) (
  .nil)⟩
noncomputable def T_law_net_by_1 : Sts := .cons (.assign (.one 3) (.bin .Add (.int 1) (.bin .Mult (.int 2) (.bin .Mod (.var 3) (.int 2))))) (
    .nil)
noncomputable def T_law_net_by_2 : Sts := .cons (.ret (.tuple (.cons (.var 2) (.cons (.call "_law_ties_by" (.cons (.var 0) (.cons (.var 2) (.cons (.var 3) .nil)))) .nil)))) (
  .nil)
noncomputable def T_law_net_by_3 : Sts := .cons (.iff (.call "_law_great" (.cons (.var 0) .nil)) (.cons (.assign (.one 2) (.bin .Add (.int 30) (.bin .Mod (.bin .FloorDiv (.call "_law_cell_at" (.cons (.var 0) (.cons (.int 0) .nil))) (.int 99)) (.int 11)))) (
    T_law_net_by_1)) (.nil)) (
  T_law_net_by_2)
noncomputable def T_law_net_by_4 : Sts := .cons (.iff (.cmp .Eq (.bin .Mod (.bin .FloorDiv (.call "_law_cell_at" (.cons (.var 0) (.cons (.int 0) .nil))) (.int 11)) (.int 9)) (.int 6)) (.cons (.assign (.one 2) (.bin .Add (.int 12) (.bin .Mod (.bin .FloorDiv (.call "_law_cell_at" (.cons (.var 0) (.cons (.int 0) .nil))) (.int 99)) (.int 11)))) (
    .nil)) (.nil)) (
  T_law_net_by_3)
noncomputable def T_law_net_by_5 : Sts := .cons (.assign (.one 3) (.call "_law_kind_by" (.cons (.var 0) .nil))) (
  T_law_net_by_4)
noncomputable def zhw : Fn := ⟨["_law_script", "_law_bound"], ["_law_script", "_law_bound", "_law_size", "_law_kind"], 4,
  .cons (.assign (.one 2) (.call "_law_size_by" (.cons (.var 0) (.cons (.var 1) .nil)))) (
  T_law_net_by_5)⟩
noncomputable def zfr : Sts := .cons (.iff (.not (.b1 .any (.comp [("_law_pair", 5)] (.bool false (.cons (.cmp .In (.idx (.var 2) (.int 0)) (.var 5)) (.cons (.cmp .In (.idx (.var 2) (.int 1)) (.var 5)) .nil))) (.one 5) (.var 4) .none))) (.cons (.expr (.m1 (.var 3) .append (.bin .Add (.var 4) (.list (.cons (.var 2) .nil))))) (
    .nil)) (.nil)) (
  .nil)
noncomputable def zfn : Sts := .cons (.assign (.one 1) (.bin .Add (.var 1) (.var 3))) (
  .nil)
noncomputable def zfm : Sts := .cons (.for (.one 4) (.var 1) (zfr)) (
  zfn)
noncomputable def zfq : Sts := .cons (.assign (.one 3) (.list (.nil))) (
  zfm)
noncomputable def zfl : Sts := .cons (.ret (.var 1)) (
  .nil)
noncomputable def zfk : Sts := .cons (.for (.one 2) (.var 0) (zfq)) (
  zfl)
noncomputable def zfv : Fn := ⟨["_law_ties"], ["_law_ties", "_law_found", "_law_tie", "_law_more", "_law_pairs"], 6,
  .cons (.assign (.one 1) (.list (.cons (.list .nil) .nil))) (
  zfk)⟩
noncomputable def zew : Sts := .cons (.ret (.comp [("_law_pairs", 4)] (.var 4) (.one 4) (.var 1) (.some (.cmp .Eq (.b1 .len (.var 4)) (.var 2))))) (
  .nil)
noncomputable def zev : Sts := .cons (.assign (.one 2) (.b1 .max (.comp [("_law_pairs", 3)] (.b1 .len (.var 3)) (.one 3) (.var 1) .none))) (
  zew)
noncomputable def zel : Fn := ⟨["_law_ties"], ["_law_ties", "_law_every", "_law_many"], 5,
  .cons (.assign (.one 1) (.call "_law_all" (.cons (.var 0) .nil))) (
  zev)⟩
noncomputable def zeu : Sts := .cons (.ret (.str "free")) (
  .nil)
noncomputable def zet : Sts := .cons (.iff (.cmp .Eq (.var 2) (.list (.nil))) (.cons (.ret (.str "loose")) (
    .nil)) (.nil)) (
  zeu)
noncomputable def zes : Sts := .cons (.iff (.cmp .Eq (.b1 .len (.var 2)) (.b1 .len (.var 0))) (.cons (.ret (.str "bound")) (
    .nil)) (.nil)) (
  zet)
noncomputable def zek : Fn := ⟨["_law_best_here", "_law_place"], ["_law_best_here", "_law_place", "_law_with_it"], 5,
  .cons (.assign (.one 2) (.comp [("_law_pairs", 3)] (.var 3) (.one 3) (.var 0) (.some (.b1 .any (.comp [("_law_pair", 4)] (.cmp .In (.var 1) (.var 4)) (.one 4) (.var 3) .none))))) (
  zes)⟩
noncomputable def zkK : Sts := .cons (.iff (.bool false (.cons (.not (.isin (.var 8) .str)) (.cons (.cmp .NotEq (.var 8) (.idx (.var 6) (.var 7))) .nil))) (.cons (.ret (.ff)) (
    .nil)) (.nil)) (
  .nil)
noncomputable def zkM : Sts := .cons (.assign (.one 8) (.call "sort_of" (.cons (.var 3) (.cons (.var 7) .nil)))) (
  zkK)
noncomputable def zkJ : Sts := .cons (.iff (.bool true (.cons (.cmp .Eq (.idx (.var 6) (.var 7)) (.str "bound")) (.cons (.b1 .any (.comp [("_law_other", 13)] (.cmp .NotEq (.idx (.var 6) (.var 13)) (.str "bound")) (.one 13) (.var 10) .none)) .nil))) (.cons (.expr (.m1 (.var 9) .append (.var 7))) (
    .nil)) (.nil)) (
  .nil)
noncomputable def zkL : Sts := .cons (.assign (.one 10) (.comp [("_law_tie", 12)] (.bin .Sub (.bin .Add (.idx (.var 12) (.int 0)) (.idx (.var 12) (.int 1))) (.var 7)) (.one 12) (.var 2) (.some (.cmp .In (.var 7) (.var 12))))) (
  zkJ)
noncomputable def zkI : Sts := .cons (.ret (.cmp .Eq (.call "fence" (.cons (.var 3) .nil)) (.var 9))) (
  .nil)
noncomputable def zkH : Sts := .cons (.for (.one 7) (.range1 (.var 1)) (zkL)) (
  zkI)
noncomputable def zh4 : Sts := .cons (.assign (.one 9) (.list (.nil))) (
  zkH)
noncomputable def zkG : Sts := .cons (.for (.one 7) (.range1 (.var 1)) (zkM)) (
  zh4)
noncomputable def zkF : Sts := .cons (.assign (.one 6) (.comp [("_law_place", 11)] (.call "_law_sort" (.cons (.var 4) (.cons (.var 11) .nil))) (.one 11) (.range1 (.var 1)) .none)) (
  zkG)
noncomputable def zh3 : Sts := .cons (.iff (.bool false (.cons (.not (.isin (.var 5) .list)) (.cons (.cmp .NotIn (.b1 .sorted (.var 5)) (.var 4)) (.cons (.cmp .IsNot (.call "better" (.cons (.var 3) (.cons (.b1 .list (.var 5)) .nil))) (.none)) .nil)))) (.cons (.ret (.ff)) (
    .nil)) (.nil)) (
  zkF)
noncomputable def zkE : Sts := .cons (.assign (.one 5) (.call "most" (.cons (.var 3) .nil))) (
  zh3)
noncomputable def ziM : Sts := .cons (.assign (.one 4) (.call "_law_best" (.cons (.var 2) .nil))) (
  zkE)
noncomputable def ziL : Sts := .cons (.assign (.one 3) (.make "Net" (.cons (.var 1) (.cons (.b1 .list (.var 2)) .nil)))) (
  ziM)
noncomputable def ziK : Sts := .cons (.assign (.one 2) (.call "_law_ties_by" (.cons (.var 0) (.cons (.var 1) (.cons (.call "_law_kind_by" (.cons (.var 0) .nil)) .nil))))) (
  ziL)
noncomputable def znb : Fn := ⟨["_law_script"], ["_law_script", "_law_size", "_law_ties", "_law_net", "_law_best_here", "_law_pairs", "_law_sorts", "_law_place", "_law_found", "_law_due", "_law_near"], 14,
  .cons (.assign (.one 1) (.call "_law_size_by" (.cons (.var 0) (.cons (.int 6) .nil)))) (
  ziK)⟩
noncomputable def fns07 : List ((String × String) × Fn) := [(("", "is_place"), zf5), (("", "is_tie"), ziP), (("Net", "__init__"), zen), (("Net", "ties"), zem), (("Net", "beside"), zdG), (("", "mates"), zh5), (("", "told"), zkN), (("", "is_way"), zgB), (("", "turned"), zgA), (("Search", "__init__"), zc7), (("Search", "meeting"), zb2), (("Search", "marked"), zcg), (("Search", "shrink"), zcf), (("Search", "step"), zc6), (("Search", "found"), zcx), (("", "road"), zkO), (("", "better"), zgC), (("", "grown"), zh8), (("", "most"), zkP), (("", "leaving"), zfu), (("", "sort_of"), zft), (("", "fence"), zh9), (("", "_law_whole"), zh6), (("", "_law_cell_at"), zc5), (("", "_law_tied"), zf4), (("", "_law_ties_by"), zc2), (("", "_law_size_by"), zc3), (("", "_law_kind_by"), zc4), (("", "_law_great"), zh7), (("", "_law_net_by"), zhw), (("", "_law_all"), zfv), (("", "_law_best"), zel), (("", "_law_sort"), zek), (("", "law"), znb)]
noncomputable def zba (c f : String) : Option Fn := fns07.lookup (c, f)
noncomputable def zbf (c f : String) : Bool := (c == "Net" && f == "size") || (c == "Net" && f == "rows") || (c == "Search" && f == "ground") || (c == "Search" && f == "mate") || (c == "Search" && f == "root") || (c == "Search" && f == "back") || (c == "Search" && f == "base") || (c == "Search" && f == "outer") || (c == "Search" && f == "waiting")
end Mine
end
section
open PySem PySem.W PyProof.Rows
set_option Elab.async false
set_option maxRecDepth 100000
set_option maxHeartbeats 8000000
namespace Mine
noncomputable def tabs07 : Tabs := ⟨[("NetError", 24), ("BadNet", 37), ("NoPlace", 49), ("BadPairs", 61), ("BadWay", 73), ("Net", 118), ("Search", 196)],
  [(("", "is_place"), 82), (("", "is_tie"), 89), (("Net", "__init__"), 101), (("Net", "ties"), 108), (("Net", "beside"), 115), (("", "mates"), 127), (("", "told"), 132), (("", "is_way"), 139), (("", "turned"), 146), (("Search", "__init__"), 158), (("Search", "meeting"), 165), (("Search", "marked"), 172), (("Search", "shrink"), 179), (("Search", "step"), 186), (("Search", "found"), 193), (("", "road"), 207), (("", "better"), 214), (("", "grown"), 221), (("", "most"), 228), (("", "leaving"), 233), (("", "sort_of"), 240), (("", "fence"), 245), (("", "_law_whole"), 252), (("", "_law_cell_at"), 259), (("", "_law_tied"), 266), (("", "_law_ties_by"), 273), (("", "_law_size_by"), 280), (("", "_law_kind_by"), 287), (("", "_law_great"), 294), (("", "_law_net_by"), 301), (("", "_law_all"), 306), (("", "_law_best"), 311), (("", "_law_sort"), 316), (("", "law"), 321)],
  [("Net", "size"), ("Net", "rows"), ("Search", "ground"), ("Search", "mate"), ("Search", "root"), ("Search", "back"), ("Search", "base"), ("Search", "outer"), ("Search", "waiting")]⟩
theorem zmB : ∀ w, (openEnds treeTable PySem.Challenge.pw_uf010024_07 w 5166).map (obs1 tabs07 fns07 321 323 17) = some true := leO fun w os => by kernel_rfl
theorem zmA : ∀ w, (openEnds treeTable PySem.Challenge.pw_uf010024_07 w 5166).map (obs2 tabs07 fns07 323 17) = some true := leO fun w os => by kernel_rfl
end Mine
end
section
set_option linter.unusedVariables false
namespace Mine
open PySem
theorem zaG {Φ : Calls} {md : Bool} {ρ : Loc} {σ : Store} {Q : V → Store → Prop} {X : XP}  : wpE Φ md (.none) ρ σ Q X = (Q .none σ) := rfl
theorem E_tt {Φ : Calls} {md : Bool} {ρ : Loc} {σ : Store} {Q : V → Store → Prop} {X : XP}  : wpE Φ md (.tt) ρ σ Q X = (Q (.bool true) σ) := rfl
theorem E_ff {Φ : Calls} {md : Bool} {ρ : Loc} {σ : Store} {Q : V → Store → Prop} {X : XP}  : wpE Φ md (.ff) ρ σ Q X = (Q (.bool false) σ) := rfl
theorem za2 {Φ : Calls} {md : Bool} {ρ : Loc} {σ : Store} {Q : V → Store → Prop} {X : XP} {i : Int} : wpE Φ md (.int i) ρ σ Q X = (Q (.int i) σ) := rfl
theorem za0 {Φ : Calls} {md : Bool} {ρ : Loc} {σ : Store} {Q : V → Store → Prop} {X : XP} {s : String} : wpE Φ md (.str s) ρ σ Q X = (Q (.str (Str.ofString s)) σ) := rfl
theorem zaZ {Φ : Calls} {md : Bool} {ρ : Loc} {σ : Store} {Q : V → Store → Prop} {X : XP} {i : Nat} : wpE Φ md (.var i) ρ σ Q X = (za9 (ρ.get i) fun v => Q v σ) := rfl
theorem zaL {Φ : Calls} {md : Bool} {ρ : Loc} {σ : Store} {Q : V → Store → Prop} {X : XP} {x : String} : wpE Φ md (.glob x) ρ σ Q X = (za9 (zkj x) fun i => Q (.int i) σ) := rfl
theorem za4 {Φ : Calls} {md : Bool} {ρ : Loc} {σ : Store} {Q : V → Store → Prop} {X : XP} {op : Operator} {a b : Ex} : wpE Φ md (.bin op a b) ρ σ Q X = (wpE Φ md a ρ σ (fun u σ₁ => wpE Φ md b ρ σ₁ (fun v σ₂ => binV op u v σ₂ Q) X) X) := rfl
theorem za1 {Φ : Calls} {md : Bool} {ρ : Loc} {σ : Store} {Q : V → Store → Prop} {X : XP} {a : Ex} : wpE Φ md (.neg a) ρ σ Q X = (wpE Φ md a ρ σ (fun u σ₁ => zec u fun i => Q (.int (-i)) σ₁) X) := rfl
theorem zaU {Φ : Calls} {md : Bool} {ρ : Loc} {σ : Store} {Q : V → Store → Prop} {X : XP} {a : Ex} : wpE Φ md (.not a) ρ σ Q X = (wpE Φ md a ρ σ (fun u σ₁ => za9 (truthy σ₁ u) fun b => Q (.bool (!b)) σ₁) X) := rfl
theorem zaV {Φ : Calls} {md : Bool} {ρ : Loc} {σ : Store} {Q : V → Store → Prop} {X : XP} {op : CmpOp} {a b : Ex} : wpE Φ md (.cmp op a b) ρ σ Q X = (wpE Φ md a ρ σ (fun u σ₁ => wpE Φ md b ρ σ₁ (fun v σ₂ => za9 (cmpV σ₂ op u v) fun r => Q (.bool r) σ₂) X) X) := rfl
theorem zaC {Φ : Calls} {md : Bool} {ρ : Loc} {σ : Store} {Q : V → Store → Prop} {X : XP} {o₁ o₂ : CmpOp} {a b c : Ex} : wpE Φ md (.cmp2 o₁ o₂ a b c) ρ σ Q X = (wpE Φ md a ρ σ (fun u σ₁ => wpE Φ md b ρ σ₁ (fun v σ₂ => za9 (cmpV σ₂ o₁ u v) fun r =>
      if r then wpE Φ md c ρ σ₂ (fun x σ₃ => za9 (cmpV σ₃ o₂ v x) fun r' => Q (.bool r') σ₃) X else Q (.bool false) σ₂) X) X) := rfl
theorem zaD {Φ : Calls} {md : Bool} {ρ : Loc} {σ : Store} {Q : V → Store → Prop} {X : XP} {isAnd : Bool} {es : Exs} : wpE Φ md (.bool isAnd es) ρ σ Q X = (zeo Φ md isAnd es ρ σ Q X) := rfl
theorem zaM {Φ : Calls} {md : Bool} {ρ : Loc} {σ : Store} {Q : V → Store → Prop} {X : XP} {f : String} {es : Exs} : wpE Φ md (.call f es) ρ σ Q X = onT (Φ.has "" f) (wpEs Φ md es ρ σ (fun vs σ₁ => Φ.run "" f vs σ₁ Q X) X) := rfl
theorem zaI {Φ : Calls} {md : Bool} {ρ : Loc} {σ : Store} {Q : V → Store → Prop} {X : XP} {c : String} {es : Exs} : wpE Φ md (.make c es) ρ σ Q X = onT (Φ.has c "__init__") (wpEs Φ md es ρ σ (fun vs σ₁ => ∀ x d, σ₁ x = none → σ₁ d = none → x ≠ d →
      Φ.run c "__init__" (.ref x :: vs) ((σ₁.upd d (.ns [])).upd x (.inst c d)) (fun r σ₂ => r = .none ∧ Q (.ref x) σ₂) X) X) := rfl
theorem zaH {Φ : Calls} {md : Bool} {ρ : Loc} {σ : Store} {Q : V → Store → Prop} {X : XP} {o : Ex} {name : String} {es : Exs} : wpE Φ md (.meth o name es) ρ σ Q X = (wpE Φ md o ρ σ (fun u σ₁ => zfE σ₁ u fun c _ fs => (fs.lookup name = none ∧ Φ.has c name = true) ∧ wpEs Φ md es ρ σ₁ (fun vs σ₂ => Φ.run c name (u :: vs) σ₂ Q X) X) X) := rfl
theorem E_m1 {Φ : Calls} {md : Bool} {ρ : Loc} {σ : Store} {Q : V → Store → Prop} {X : XP} {o : Ex} {m : M1} {a : Ex} : wpE Φ md (.m1 o m a) ρ σ Q X = (wpE Φ md o ρ σ (fun u σ₁ => zbw σ₁ u fun _ _ => wpE Φ md a ρ σ₁ (fun x σ₂ => m1V m u x σ₂ Q) X) X) := rfl
theorem zaN {Φ : Calls} {md : Bool} {ρ : Loc} {σ : Store} {Q : V → Store → Prop} {X : XP} {o : Ex} {name : String} : wpE Φ md (.attr o name) ρ σ Q X = (wpE Φ md o ρ σ (fun u σ₁ => zdl Φ.fld u name σ₁ fun x => Q x σ₁) X) := rfl
theorem za3 {Φ : Calls} {md : Bool} {ρ : Loc} {σ : Store} {Q : V → Store → Prop} {X : XP} {o i : Ex} : wpE Φ md (.idx o i) ρ σ Q X = (wpE Φ md o ρ σ (fun u σ₁ => wpE Φ md i ρ σ₁ (fun v σ₂ => idxV u v σ₂ fun x => Q x σ₂) X) X) := rfl
theorem zan {Φ : Calls} {md : Bool} {ρ : Loc} {σ : Store} {Q : V → Store → Prop} {X : XP} {o : Ex} {lo hi : ExO} : wpE Φ md (.slice o lo hi) ρ σ Q X = (wpE Φ md o ρ σ (fun u σ₁ => wpO Φ md lo ρ σ₁ (fun l σ₂ => wpO Φ md hi ρ σ₂ (fun h σ₃ => zgS u l h σ₃ Q) X) X) X) := rfl
theorem zaJ {Φ : Calls} {md : Bool} {ρ : Loc} {σ : Store} {Q : V → Store → Prop} {X : XP} {es : Exs} : wpE Φ md (.list es) ρ σ Q X = (wpEs Φ md es ρ σ (fun vs σ₁ => vs.length ≤ zbb ∧ alloc σ₁ (.list vs) Q) X) := rfl
theorem zam {Φ : Calls} {md : Bool} {ρ : Loc} {σ : Store} {Q : V → Store → Prop} {X : XP} {es : Exs} : wpE Φ md (.tuple es) ρ σ Q X = (wpEs Φ md es ρ σ (fun vs σ₁ => vs.length ≤ zbb ∧ Q (.tup vs) σ₁) X) := rfl
theorem zao {Φ : Calls} {md : Bool} {ρ : Loc} {σ : Store} {Q : V → Store → Prop} {X : XP}  : wpE Φ md (.dict0) ρ σ Q X = (alloc σ (.dict []) Q) := rfl
theorem E_b1 {Φ : Calls} {md : Bool} {ρ : Loc} {σ : Store} {Q : V → Store → Prop} {X : XP} {f : B1} {e : Ex} : wpE Φ md (.b1 f e) ρ σ Q X = (wpE Φ md e ρ σ (fun u σ₁ => b1V md f u σ₁ Q) X) := rfl
theorem zaK {Φ : Calls} {md : Bool} {ρ : Loc} {σ : Store} {Q : V → Store → Prop} {X : XP} {e : Ex} {t : Ty} : wpE Φ md (.isin e t) ρ σ Q X = (wpE Φ md e ρ σ (fun u σ₁ => za9 (zio σ₁ u t) fun b => Q (.bool b) σ₁) X) := rfl
theorem zaB {Φ : Calls} {md : Bool} {ρ : Loc} {σ : Store} {Q : List V → Store → Prop} {X : XP} : wpEs Φ md .nil ρ σ Q X = Q [] σ := rfl
theorem zal {Φ : Calls} {md : Bool} {ρ : Loc} {σ : Store} {Q : List V → Store → Prop} {X : XP} {e : Ex} {es : Exs} : wpEs Φ md (.cons e es) ρ σ Q X = wpE Φ md e ρ σ (fun v σ₁ => wpEs Φ md es ρ σ₁ (fun vs σ₂ => Q (v :: vs) σ₂) X) X := rfl
theorem zaT {Φ : Calls} {md : Bool} {ρ : Loc} {σ : Store} {Q : V → Store → Prop} {X : XP} {isAnd : Bool} {e : Ex} : zeo Φ md isAnd (.cons e .nil) ρ σ Q X = wpE Φ md e ρ σ Q X := rfl
theorem zav {Φ : Calls} {md : Bool} {ρ : Loc} {σ : Store} {Q : V → Store → Prop} {X : XP} {isAnd : Bool} {e e2 : Ex} {es : Exs} : zeo Φ md isAnd (.cons e (.cons e2 es)) ρ σ Q X = wpE Φ md e ρ σ (fun v σ₁ => za9 (truthy σ₁ v) fun b => if b = isAnd then zeo Φ md isAnd (.cons e2 es) ρ σ₁ Q X else Q v σ₁) X := rfl
theorem zaA {Φ : Calls} {md : Bool} {ρ : Loc} {σ : Store} {Q : V → Store → Prop} {X : XP} : wpO Φ md .none ρ σ Q X = Q .none σ := rfl
theorem zaz {Φ : Calls} {md : Bool} {ρ : Loc} {σ : Store} {Q : V → Store → Prop} {X : XP} {e : Ex} : wpO Φ md (.some e) ρ σ Q X = wpE Φ md e ρ σ Q X := rfl
theorem zax {Φ : Calls} {md : Bool} {ρ : Loc} {σ : Store} {Q : Bool → Store → Prop} {X : XP} : wpC Φ md .none ρ σ Q X = Q true σ := rfl
theorem zaw {Φ : Calls} {md : Bool} {ρ : Loc} {σ : Store} {Q : Bool → Store → Prop} {X : XP} {e : Ex} : wpC Φ md (.some e) ρ σ Q X = wpE Φ md e ρ σ (fun v σ₁ => za9 (truthy σ₁ v) fun b => Q b σ₁) X := rfl
theorem I_r1 {Φ : Calls} {md : Bool} {ρ : Loc} {σ : Store} {K : List V → (Store → Prop) → Store → Prop} {X : XP} {a : Ex} : wpIt Φ md (.range1 a) ρ σ K X = wpE Φ md a ρ σ (fun u σ₁ => itR1 u σ₁ K) X := rfl
theorem I_r2 {Φ : Calls} {md : Bool} {ρ : Loc} {σ : Store} {K : List V → (Store → Prop) → Store → Prop} {X : XP} {a b : Ex} : wpIt Φ md (.range2 a b) ρ σ K X = wpE Φ md a ρ σ (fun u σ₁ => wpE Φ md b ρ σ₁ (fun v σ₂ => itR2 u v σ₂ K) X) X := rfl
theorem I_r3 {Φ : Calls} {md : Bool} {ρ : Loc} {σ : Store} {K : List V → (Store → Prop) → Store → Prop} {X : XP} {a b c : Ex} : wpIt Φ md (.range3 a b c) ρ σ K X = wpE Φ md a ρ σ (fun u σ₁ => wpE Φ md b ρ σ₁ (fun v σ₂ => wpE Φ md c ρ σ₂ (fun x σ₃ => itR3 u v x σ₃ K) X) X) X := rfl
theorem zaS {Φ : Calls} {md : Bool} {ρ : Loc} {σ : Store} {K : List V → (Store → Prop) → Store → Prop} {X : XP} {i : Nat} : wpIt Φ md (.var i) ρ σ K X = wpE Φ md (.var i) ρ σ (fun u σ₁ => zcY u σ₁ fun items chk => K items chk σ₁) X := rfl
theorem zlJ {Φ : Calls} {md : Bool} {ρ : Loc} {σ : Store} {K : List V → (Store → Prop) → Store → Prop} {X : XP} {o i : Ex} : wpIt Φ md (.idx o i) ρ σ K X = wpE Φ md (.idx o i) ρ σ (fun u σ₁ => zcY u σ₁ fun items chk => K items chk σ₁) X := rfl
theorem zau {Φ : Calls} {md : Bool} {ρ : Loc} {σ : Store} {K : List V → (Store → Prop) → Store → Prop} {X : XP} {o : Ex} {name : String} : wpIt Φ md (.attr o name) ρ σ K X = wpE Φ md (.attr o name) ρ σ (fun u σ₁ => zcY u σ₁ fun items chk => K items chk σ₁) X := rfl
theorem ziO {Φ : Calls} {md : Bool} {ρ : Loc} {σ : Store} {K : List V → (Store → Prop) → Store → Prop} {X : XP} {es : Exs} : wpIt Φ md (.list es) ρ σ K X = wpE Φ md (.list es) ρ σ (fun u σ₁ => zcY u σ₁ fun items chk => K items chk σ₁) X := rfl
theorem zat {Φ : Calls} {md : Bool} {ρ : Loc} {σ : Store} {K : List V → (Store → Prop) → Store → Prop} {X : XP} {f : String} {es : Exs} : wpIt Φ md (.call f es) ρ σ K X = wpE Φ md (.call f es) ρ σ (fun u σ₁ => zcY u σ₁ fun items chk => K items chk σ₁) X := rfl
theorem zaO {Φ : Calls} {md : Bool} {ρ : Loc} {σ : Store} {K : List V → (Store → Prop) → Store → Prop} {X : XP} {o : Ex} {name : String} {es : Exs} : wpIt Φ md (.meth o name es) ρ σ K X = wpE Φ md (.meth o name es) ρ σ (fun u σ₁ => zcY u σ₁ fun items chk => K items chk σ₁) X := rfl
theorem zgy {Φ : Calls} {md : Bool} {ρ : Loc} {σ : Store} {K : List V → (Store → Prop) → Store → Prop} {X : XP} {o : Ex} {lo hi : ExO} : wpIt Φ md (.slice o lo hi) ρ σ K X = wpE Φ md (.slice o lo hi) ρ σ (fun u σ₁ => zcY u σ₁ fun items chk => K items chk σ₁) X := rfl
theorem za5 {Φ : Calls} {md : Bool} {bs : List (String × Nat)} {elt : Ex} {t : Tg} {cond : ExO} {ρ : Loc} {σ : Store} {Q : V → Store → Prop} {X : XP} {a : Ex} : wpE Φ md (.comp bs elt t (.range1 a) cond) ρ σ Q X = onT md (wpIt Φ md (.range1 a) ρ σ (fun items chk σ₁ => zcw chk (fun v σ₂ K => za9 (zbo t v ρ) fun ρ' => wpC Φ md cond ρ' σ₂ (fun b σ₃ => if b then wpE Φ md elt ρ' σ₃ (fun x σ₄ => K (some x) σ₄) noX else K none σ₃) noX) Q items [] σ₁) X) := rfl
theorem zaP {Φ : Calls} {md : Bool} {bs : List (String × Nat)} {elt : Ex} {t : Tg} {cond : ExO} {ρ : Loc} {σ : Store} {Q : V → Store → Prop} {X : XP} {i : Nat} : wpE Φ md (.comp bs elt t (.var i) cond) ρ σ Q X = onT md (wpIt Φ md (.var i) ρ σ (fun items chk σ₁ => zcw chk (fun v σ₂ K => za9 (zbo t v ρ) fun ρ' => wpC Φ md cond ρ' σ₂ (fun b σ₃ => if b then wpE Φ md elt ρ' σ₃ (fun x σ₄ => K (some x) σ₄) noX else K none σ₃) noX) Q items [] σ₁) X) := rfl
theorem zas {Φ : Calls} {md : Bool} {bs : List (String × Nat)} {elt : Ex} {t : Tg} {cond : ExO} {ρ : Loc} {σ : Store} {Q : V → Store → Prop} {X : XP} {o : Ex} {name : String} : wpE Φ md (.comp bs elt t (.attr o name) cond) ρ σ Q X = onT md (wpIt Φ md (.attr o name) ρ σ (fun items chk σ₁ => zcw chk (fun v σ₂ K => za9 (zbo t v ρ) fun ρ' => wpC Φ md cond ρ' σ₂ (fun b σ₃ => if b then wpE Φ md elt ρ' σ₃ (fun x σ₄ => K (some x) σ₄) noX else K none σ₃) noX) Q items [] σ₁) X) := rfl
theorem zar {Φ : Calls} {md : Bool} {bs : List (String × Nat)} {elt : Ex} {t : Tg} {cond : ExO} {ρ : Loc} {σ : Store} {Q : V → Store → Prop} {X : XP} {f : String} {es : Exs} : wpE Φ md (.comp bs elt t (.call f es) cond) ρ σ Q X = onT md (wpIt Φ md (.call f es) ρ σ (fun items chk σ₁ => zcw chk (fun v σ₂ K => za9 (zbo t v ρ) fun ρ' => wpC Φ md cond ρ' σ₂ (fun b σ₃ => if b then wpE Φ md elt ρ' σ₃ (fun x σ₄ => K (some x) σ₄) noX else K none σ₃) noX) Q items [] σ₁) X) := rfl
theorem zaq {Φ : Calls} {md : Bool} {bs : List (String × Nat)} {elt : Ex} {t : Tg} {cond : ExO} {ρ : Loc} {σ : Store} {Q : V → Store → Prop} {X : XP} {o : Ex} {name : String} {es : Exs} : wpE Φ md (.comp bs elt t (.meth o name es) cond) ρ σ Q X = onT md (wpIt Φ md (.meth o name es) ρ σ (fun items chk σ₁ => zcw chk (fun v σ₂ K => za9 (zbo t v ρ) fun ρ' => wpC Φ md cond ρ' σ₂ (fun b σ₃ => if b then wpE Φ md elt ρ' σ₃ (fun x σ₄ => K (some x) σ₄) noX else K none σ₃) noX) Q items [] σ₁) X) := rfl
theorem zag {n : Int} {σ : Store} {K : List V → (Store → Prop) → Store → Prop} : itR1 (.int n) σ K = ((n < 2 ^ 31 ∧ -(2 ^ 31) < n) ∧ K ((upto 0 n 1).map V.int) (fun _ => True) σ) := rfl
theorem zai {m n : Int} {σ : Store} {K : List V → (Store → Prop) → Store → Prop} : itR2 (.int m) (.int n) σ K = ((n < 2 ^ 31 ∧ -(2 ^ 31) < n ∧ m < 2 ^ 31 ∧ -(2 ^ 31) < m) ∧ K ((upto m n 1).map V.int) (fun _ => True) σ) := rfl
theorem zah {m n k : Int} {σ : Store} {K : List V → (Store → Prop) → Store → Prop} : itR3 (.int m) (.int n) (.int k) σ K = ((n < 2 ^ 31 ∧ -(2 ^ 31) < n ∧ m < 2 ^ 31 ∧ -(2 ^ 31) < m ∧ 0 < k ∧ k < 1000000000) ∧ K ((upto m n k).map V.int) (fun _ => True) σ) := rfl
theorem zaF {Φ : Bool → Calls} {md : Bool} {ρ : Loc} {σ : Store} {N : Loc → Store → Prop} {R : V → Store → Prop} {X : XL} {e : Ex} : wpS Φ md (.expr e) ρ σ N R X = (wpE (Φ md) md e ρ σ (fun v σ₁ => onT (drp v) (N ρ σ₁)) fun c a σ₁ => X c a ρ σ₁) := rfl
theorem zaj {Φ : Bool → Calls} {md : Bool} {ρ : Loc} {σ : Store} {N : Loc → Store → Prop} {R : V → Store → Prop} {X : XL} {t : Tg} {e : Ex} : wpS Φ md (.assign t e) ρ σ N R X = onT (tgOk md t) (wpE (Φ md) md e ρ σ (fun v σ₁ => za9 (zbo t v ρ) fun ρ' => N ρ' σ₁) fun c a σ₁ => X c a ρ σ₁) := rfl
theorem zad {Φ : Bool → Calls} {md : Bool} {ρ : Loc} {σ : Store} {N : Loc → Store → Prop} {R : V → Store → Prop} {X : XL} {o : Ex} {name : String} {e : Ex} : wpS Φ md (.setattr o name e) ρ σ N R X = (wpE (Φ md) md e ρ σ (fun v σ₁ => wpE (Φ md) md o ρ σ₁ (fun u σ₂ => zd5 (Φ md).fld u name v σ₂ fun σ₃ => N ρ σ₃) fun c a σ₁ => X c a ρ σ₁) fun c a σ₁ => X c a ρ σ₁) := rfl
theorem zac {Φ : Bool → Calls} {md : Bool} {ρ : Loc} {σ : Store} {N : Loc → Store → Prop} {R : V → Store → Prop} {X : XL} {o i e : Ex} : wpS Φ md (.setitem o i e) ρ σ N R X = (wpE (Φ md) md e ρ σ (fun v σ₁ => wpE (Φ md) md o ρ σ₁ (fun u σ₂ => wpE (Φ md) md i ρ σ₂ (fun k σ₃ => zbJ u k v σ₃ fun σ₄ => N ρ σ₄)
      fun c a σ₁ => X c a ρ σ₁) fun c a σ₁ => X c a ρ σ₁) fun c a σ₁ => X c a ρ σ₁) := rfl
theorem zaW {Φ : Bool → Calls} {md : Bool} {ρ : Loc} {σ : Store} {N : Loc → Store → Prop} {R : V → Store → Prop} {X : XL} {e : Ex} : wpS Φ md (.ret e) ρ σ N R X = (wpE (Φ md) md e ρ σ R fun c a σ₁ => X c a ρ σ₁) := rfl
theorem zap {Φ : Bool → Calls} {md : Bool} {ρ : Loc} {σ : Store} {N : Loc → Store → Prop} {R : V → Store → Prop} {X : XL} {c msg : String} : wpS Φ md (.raise c msg) ρ σ N R X = False := rfl
theorem zaX {Φ : Bool → Calls} {md : Bool} {ρ : Loc} {σ : Store} {N : Loc → Store → Prop} {R : V → Store → Prop} {X : XL} {c : Ex} {th el : Sts} : wpS Φ md (.iff c th el) ρ σ N R X = (wpE (Φ md) md c ρ σ (fun v σ₁ => za9 (truthy σ₁ v) fun b => if b then wpSs Φ md th ρ σ₁ N R X else wpSs Φ md el ρ σ₁ N R X) fun c a σ₁ => X c a ρ σ₁) := rfl
theorem zaE {Φ : Bool → Calls} {md : Bool} {ρ : Loc} {σ : Store} {N : Loc → Store → Prop} {R : V → Store → Prop} {X : XL} {c : Ex} {body : Sts} : wpS Φ md (.whil c body) ρ σ N R X = (∃ n, zep (fun ρ σ K => wpE (Φ md) md c ρ σ (fun v σ₁ => za9 (truthy σ₁ v) fun b => K b σ₁) fun c a σ₁ => X c a ρ σ₁)
      (fun ρ σ K => wpSs Φ md body ρ σ K R X) N n ρ σ) := rfl
theorem zaY {Φ : Bool → Calls} {md : Bool} {ρ : Loc} {σ : Store} {N : Loc → Store → Prop} {R : V → Store → Prop} {X : XL} {t : Tg} {it : Ex} {body : Sts} : wpS Φ md (.for t it body) ρ σ N R X = onT md (wpIt (Φ md) md it ρ σ (fun items chk σ₁ => forV chk (fun v ρ σ K => za9 (zbo t v ρ) fun ρ' => wpSs Φ md body ρ' σ K R X) N items ρ σ₁)
      fun c a σ₁ => X c a ρ σ₁) := rfl
theorem zay {Φ : Bool → Calls} {md : Bool} {ρ : Loc} {σ : Store} {N : Loc → Store → Prop} {R : V → Store → Prop} {X : XL} : wpSs Φ md .nil ρ σ N R X = N ρ σ := rfl
theorem zak {Φ : Bool → Calls} {md : Bool} {ρ : Loc} {σ : Store} {N : Loc → Store → Prop} {R : V → Store → Prop} {X : XL} {s : St} {r : Sts} : wpSs Φ md (.cons s r) ρ σ N R X = wpS Φ md s ρ σ (fun ρ₁ σ₁ => wpSs Φ md r ρ₁ σ₁ N R X) R X := rfl
end Mine
end
section
namespace Mine
open PySem PySem.W PySem.Calls PyProof.Rows
mutual
inductive VR (h : Heap) : V → Value → Prop
  | none : VR h .none .none
  | bool {b : Bool} : VR h (.bool b) (.bool b)
  | int {i : Int} {t : Tok} : VR h (.int i) (.int i t)
  | str {s : Str} {t : Tok} : VR h (.str s) (.str s t)
  | ref {a : Addr} : VR h (.ref a) (.ref a)
  | tup {vs : List V} {xs : List Value} {a : Addr} {n : Nat} : h.get? a = some (seqObj "tuple" xs.toArray n) → VRs h vs xs → VR h (.tup vs) (.ref a)
inductive VRs (h : Heap) : List V → List Value → Prop
  | nil : VRs h [] []
  | cons {v : V} {vs : List V} {x : Value} {xs : List Value} : VR h v x → VRs h vs xs → VRs h (v :: vs) (x :: xs)
end
noncomputable def IsT (o : Obj) : Prop := o.cls = .type "tuple" ∧ ∃ xs n, o.data = .seq xs n
noncomputable def zbO (h h' : Heap) : Prop := ∀ a o, h.get? a = some o → IsT o → h'.get? a = some o
theorem VR.keep {h h' : Heap} (k : zbO h h') {v : V} {x : Value} (r : VR h v x) : VR h' v x :=
  VR.rec (motive_1 := fun v x _ => VR h' v x) (motive_2 := fun v x _ => VRs h' v x) .none .bool .int .str .ref (fun e _ ih => .tup (k _ _ e ⟨rfl, _, _, rfl⟩) ih) .nil (fun _ _ a b => .cons a b) r
theorem VRs.ind {h : Heap} {P : List V → List Value → Prop} (n : P [] []) (c : ∀ {v : V} {vs : List V} {x : Value} {xs : List Value}, VR h v x → VRs h vs xs → P vs xs → P (v :: vs) (x :: xs)) {v : List V} {x : List Value} (r : VRs h v x) : P v x :=
  VRs.rec (motive_1 := fun _ _ _ => True) (motive_2 := fun v x _ => P v x) trivial trivial trivial trivial trivial (fun _ _ _ => trivial) n (fun a r _ ih => c a r ih) r
theorem VRs.keep {h h' : Heap} (k : zbO h h') {v : List V} {x : List Value} (r : VRs h v x) : VRs h' v x :=
  r.ind (P := fun v x => VRs h' v x) .nil fun a _ b => .cons (a.keep k) b
theorem VRs.length {h : Heap} {v : List V} {x : List Value} (r : VRs h v x) : v.length = x.length :=
  r.ind (P := fun v x => v.length = x.length) rfl fun _ _ ih => congrArg (· + 1) ih
theorem VRs.append {h : Heap} {u v : List V} {x y : List Value} (r : VRs h u x) (q : VRs h v y) : VRs h (u ++ v) (x ++ y) :=
  r.ind (P := fun u x => VRs h (u ++ v) (x ++ y)) q fun a _ ih => .cons a ih
theorem VRs.get {h : Heap} {v : List V} {x : List Value} (r : VRs h v x) {i : Nat} {a : V} (e : v[i]? = some a) : ∃ b, x[i]? = some b ∧ VR h a b :=
  r.ind (P := fun v x => ∀ (i : Nat) (a : V), v[i]? = some a → ∃ b, x[i]? = some b ∧ VR h a b) (fun i a e => by rw [List.getElem?_nil] at e; cases e)
    (fun q _ ih i a e => by
      cases i with
      | zero => cases e; exact ⟨_, rfl, q⟩
      | succ i => exact ih i a e) i a e
section
variable (cls : String → Option Addr) (prog : Program) (w : World)
noncomputable def KR (h : Heap) (a : Addr) (ks : List V) : Prop :=
  (∃ ns : List Int, ks = ns.map V.int ∧ h.DictOf (intKind prog w) a (ns.map fun n => (n, Value.bool true))) ∨
  (∃ ps : List ((Int × Int) × Addr), ks = ps.map (fun p => V.tup [.int p.1.1, .int p.1.2]) ∧ h.DictOfH (tupleKind (intKind prog w)) a (ps.map fun p => ([p.1.1, p.1.2], p.2, Value.bool true)))
noncomputable def NR (h : Heap) : List (String × V) → List DictEntry → Prop
  | [], [] => True
  | (n, v) :: r, e :: es => (∃ t, e.key = .str (Str.ofString n) t) ∧ VR h v e.val ∧ NR h r es
  | _, _ => False
noncomputable def OR (h : Heap) (a : Addr) : AO → Prop
  | .list vs => ∃ xs n, h.get? a = some (seqObj "list" xs.toArray n) ∧ VRs h vs xs ∧ vs.length ≤ zbb
  | .fixed vs => ∃ xs, h.IsList a xs.toArray ∧ VRs h vs xs ∧ vs.length ≤ zbb
  | .dict ks => KR prog w h a ks ∧ ks.length ≤ zbb
  | .inst c d => ∃ C, cls c = some C ∧ h.get? a = some (instObj C d)
  | .ns fs => ∃ es n, h.get? a = some (dictOf es n) ∧ NR h fs es ∧ (fs.map (·.1)).Nodup
end
noncomputable def KeptAs (o : Obj) (r : Option Obj) : Prop := r = some o ∨ ∃ es n sl, o.data = .dict es n ∧ r = some { o with slots := sl }
structure HStep (D : Addr → Prop) (h h' : Heap) : Prop where
  size : h.objs.size ≤ h'.objs.size
  keep : ∀ a o, h.get? a = some o → ¬ D a → KeptAs o (h'.get? a)
  tup : zbO h h'
structure Cx where
  prog : Program
  w : World
  base : Heap
  cls : String → Option Addr
  fn : String → String → Option Addr
  fld : String → String → Bool
  K : Frag
  mg : Str → Option Value
  mb : Str → Option Value
abbrev Cx.M (C : Cx) : Model := model C.prog C.w
structure Rel (C : Cx) (σ : Store) (h : Heap) : Prop where
  stays : C.base.StaysIn h
  tr : ∀ a o, σ a = some o → OR C.cls C.prog C.w h a o
  new : ∀ a o, σ a = some o → C.base.objs.size ≤ a ∨ ∃ vs, o = .fixed vs
  size : C.base.objs.size ≤ h.objs.size
structure Step (C : Cx) (D : Addr → Prop) (σ : Store) (s : Shared) (σ' : Store) (s' : Shared) : Prop where
  h : HStep (fun a => σ a ≠ none ∨ D a) s.heap s'.heap
  rel : Rel C σ' s'.heap
  dom : ∀ a, σ a ≠ none → σ' a ≠ none
  fresh : ∀ a, σ' a ≠ none → σ a ≠ none ∨ s.heap.objs.size ≤ a
  gens : s'.gens = s.gens
  os : s'.os = s.os
noncomputable def No : Addr → Prop := fun _ => False
theorem KeptAs.trans {o : Obj} {r r' : Option Obj} (x : KeptAs o r) (y : ∀ o', r = some o' → KeptAs o' r') : KeptAs o r' := by
  rcases x with rfl | ⟨es, n, sl, hd, rfl⟩
  · exact y _ rfl
  · rcases y _ rfl with rfl | ⟨_, _, sl', _, rfl⟩
    · exact .inr ⟨es, n, sl, hd, rfl⟩
    · exact .inr ⟨es, n, sl', hd, rfl⟩
theorem KeptAs.some {o : Obj} {r : Option Obj} (x : KeptAs o r) : ∃ o', r = some o' ∧ o'.data = o.data ∧ o'.cls = o.cls ∧ o'.dict = o.dict := by
  rcases x with rfl | ⟨es, n, sl, hd, rfl⟩
  · exact ⟨_, rfl, rfl, rfl, rfl⟩
  · exact ⟨_, rfl, rfl, rfl, rfl⟩
theorem KeptAs.plain {o : Obj} {r : Option Obj} (x : KeptAs o r) (hd : ∀ es n, o.data ≠ .dict es n) : r = Option.some o := by
  rcases x with rfl | ⟨es, n, sl, hd', rfl⟩
  · rfl
  · exact absurd hd' (hd _ _)
theorem HStep.refl {D : Addr → Prop} {h : Heap} : HStep D h h := ⟨Nat.le_refl _, fun _ _ e _ => .inl e, fun _ _ e _ => e⟩
theorem HStep.trans {D D' : Addr → Prop} {h₁ h₂ h₃ : Heap} (x : HStep D h₁ h₂) (y : HStep D' h₂ h₃) (hD : ∀ a, D' a → D a ∨ h₁.objs.size ≤ a) : HStep D h₁ h₃ :=
  ⟨Nat.le_trans x.size y.size, fun a o e n => (x.keep a o e n).trans fun o' e' => y.keep a o' e' fun d => (hD a d).elim n fun l => absurd (Heap.lt_size e) (Nat.not_lt.mpr l),
    fun a o e t => y.tup a o (x.tup a o e t) t⟩
theorem HStep.grow {D : Addr → Prop} {h h' : Heap} (k : ∀ b o, h.get? b = some o → h'.get? b = some o) (hs : h.objs.size ≤ h'.objs.size) : HStep D h h' :=
  ⟨hs, fun a o e _ => .inl (k a o e), fun a o e _ => k a o e⟩
theorem HStep.mono {D D' : Addr → Prop} {h h' : Heap} (x : HStep D h h') (m : ∀ a, D a → D' a) : HStep D' h h' := ⟨x.size, fun a o e n => x.keep a o e fun d => n (m a d), x.tup⟩
theorem Step.refl {C : Cx} {D : Addr → Prop} {σ : Store} {s : Shared} (r : Rel C σ s.heap) : Step C D σ s σ s :=
  ⟨.refl, r, fun _ x => x, fun _ x => .inl x, rfl, rfl⟩
theorem Step.trans {C : Cx} {D : Addr → Prop} {σ₁ σ₂ σ₃ : Store} {s₁ s₂ s₃ : Shared} (x : Step C D σ₁ s₁ σ₂ s₂) (y : Step C D σ₂ s₂ σ₃ s₃) : Step C D σ₁ s₁ σ₃ s₃ :=
  ⟨x.h.trans y.h fun a d => d.elim (fun n => (x.fresh a n).imp .inl id) fun d => .inl (.inr d), y.rel, fun a n => y.dom a (x.dom a n),
    fun a n => (y.fresh a n).elim (x.fresh a) fun l => .inr (Nat.le_trans x.h.size l), y.gens.trans x.gens, y.os.trans x.os⟩
theorem Step.mono {C : Cx} {D D' : Addr → Prop} {σ σ' : Store} {s s' : Shared} (x : Step C D σ s σ' s') (m : ∀ a, D a → D' a) : Step C D' σ s σ' s' :=
  ⟨x.h.mono fun a d => d.imp id (m a), x.rel, x.dom, x.fresh, x.gens, x.os⟩
theorem Step.no {C : Cx} {D : Addr → Prop} {σ σ' : Store} {s s' : Shared} (x : Step C No σ s σ' s') : Step C D σ s σ' s' := x.mono fun _ f => f.elim
theorem Step.drop {C : Cx} {D : Addr → Prop} {σ σ' : Store} {s s' : Shared} (x : Step C D σ s σ' s') (m : ∀ a, D a → s.heap.objs.size ≤ a) : Step C No σ s σ' s' :=
  ⟨⟨x.h.size, fun a o e n => x.h.keep a o e fun d => d.elim (fun z => n (.inl z)) fun z => absurd (Heap.lt_size e) (Nat.not_lt.mpr (m a z)), x.h.tup⟩, x.rel, x.dom, x.fresh, x.gens, x.os⟩
theorem Step.vr {C : Cx} {D : Addr → Prop} {σ σ' : Store} {s s' : Shared} (x : Step C D σ s σ' s') {v : V} {u : Value} (r : VR s.heap v u) : VR s'.heap v u := r.keep x.h.tup
theorem Step.vrs {C : Cx} {D : Addr → Prop} {σ σ' : Store} {s s' : Shared} (x : Step C D σ s σ' s') {v : List V} {u : List Value} (r : VRs s.heap v u) : VRs s'.heap v u := r.keep x.h.tup
theorem Step.toks {C : Cx} {D : Addr → Prop} {σ : Store} {s : Shared} (r : Rel C σ s.heap) (t : Nat) : Step C D σ s σ { s with toks := t } :=
  ⟨.refl, r, fun _ x => x, fun _ x => .inl x, rfl, rfl⟩
noncomputable def PostV (C : Cx) (σ : Store) (s : Shared) (Q : V → Store → Prop) : Value → Shared → Prop := fun v s' => ∃ V σ', Q V σ' ∧ VR s'.heap V v ∧ Step C No σ s σ' s'
noncomputable def PostX (_ : Cx) (_ : Store) (_ : Shared) (_ : XP) : Value → Shared → Prop := fun _ _ => False
theorem PostX.from {C : Cx} {σ σ₁ : Store} {s s₁ s' : Shared} {X : XP} {x : Value} (_ : Step C No σ s σ₁ s₁) (h : PostX C σ₁ s₁ X x s') : PostX C σ s X x s' := h
theorem PostV.from {C : Cx} {σ σ₁ : Store} {s s₁ s' : Shared} {Q : V → Store → Prop} {v : Value} (y : Step C No σ s σ₁ s₁) (h : PostV C σ₁ s₁ Q v s') : PostV C σ s Q v s' := by
  refine ob1 h ?_
  clear h
  intro V σ' hQ hv st
  exact ⟨V, σ', hQ, hv, y.trans st⟩
noncomputable def FramesOk (C : Cx) (A : Around) (σ : Store) (h : Heap) : Prop := ∃ l, A.frames = some l ∧ h.FunFrames C.base l ∧ ∀ L ∈ l.filterMap (·.frame), σ L = none ∧ ∃ o es n, h.get? L = some o ∧ o.data = .dict es n
structure AOk (C : Cx) (k : Nat) (md : Bool) (A : Around) (σ : Store) (h : Heap) : Prop where
  frames : FramesOk C A σ h
  handled : md = true → A.handled = none
  depth : A.depth + 3 * k < 990
  units : A.units + 40 * k < 9000
theorem FramesOk.keep {C : Cx} {A : Around} {D : Addr → Prop} {σ σ' : Store} {s s' : Shared} (x : FramesOk C A σ s.heap) (y : Step C D σ s σ' s')
    (hD : ∀ l, A.frames = some l → ∀ L ∈ l.filterMap (·.frame), D L → ∃ o es n, s'.heap.get? L = some o ∧ o.data = .dict es n) : FramesOk C A σ' s'.heap := by
  refine ob2 x ?_
  clear x
  intro l hl hf hn
  have hD := hD l hl
  have at_ : ∀ L ∈ l.filterMap (·.frame), ∃ o es n, s'.heap.get? L = some o ∧ o.data = .dict es n := fun L hL => by
    by_cases hd : D L
    · exact hD L hL hd
    · refine ob3 (hn L hL) ?_
      intro h1 o es n h2 h3
      refine ob4 ((y.h.keep L o h2 (fun d => d.elim (fun z => z h1) hd)).some) ?_
      intro o' ho' hd' _ _
      exact ⟨o', es, n, ho', hd'.trans h3⟩
  refine ⟨l, hl, ?_, fun L hL => ⟨?_, at_ L hL⟩⟩
  · clear hl hD
    induction l with
    | nil => trivial
    | cons env r ih =>
      refine ob5 hf ?_
      clear hf
      intro hk L o e1 e2 e3 e4 hr
      have sub : ∀ L' ∈ r.filterMap (·.frame), L' ∈ (env :: r).filterMap (·.frame) := fun L' hL' => by rw [List.filterMap_cons, e1]; exact List.mem_cons_of_mem _ hL'
      obtain ⟨o', es, n, ho', hd'⟩ := at_ L (by rw [List.filterMap_cons, e1]; exact List.mem_cons_self)
      exact ⟨hk, ⟨L, o', e1, e2, ho', fun vs q => by rw [hd'] at q; cases q⟩, ih hr (fun L' hL' => hn L' (sub L' hL')) fun L' hL' => at_ L' (sub L' hL')⟩
  · cases q : σ' L with
    | none => rfl
    | some o =>
      rcases y.fresh L (by rw [q]; simp) with z | z
      · exact absurd (hn L hL).1 z
      · refine ob3 (hn L hL) ?_
        intro _ o _ _ ho _
        exact absurd (Heap.lt_size ho) (Nat.not_lt.mpr z)
theorem AOk.keep {C : Cx} {k : Nat} {md : Bool} {A : Around} {D : Addr → Prop} {σ σ' : Store} {s s' : Shared} (x : AOk C k md A σ s.heap) (y : Step C D σ s σ' s')
    (hD : ∀ l, A.frames = some l → ∀ L ∈ l.filterMap (·.frame), D L → ∃ o es n, s'.heap.get? L = some o ∧ o.data = .dict es n) : AOk C k md A σ' s'.heap :=
  ⟨x.frames.keep y hD, x.handled, x.depth, x.units⟩
theorem AOk.step {C : Cx} {k : Nat} {md : Bool} {A : Around} {σ σ' : Store} {s s' : Shared} (x : AOk C k md A σ s.heap) (y : Step C No σ s σ' s') : AOk C k md A σ' s'.heap := x.keep y fun _ _ _ _ f => f.elim
structure EnvOk (env : Env) : Prop where
  kind : env.scope.kind = .function
  globals : env.globals = mainGlobals
  builtins : env.builtins = builtinsNs
noncomputable def Holds (h : Heap) (env : Env) (x : Str) (v : V) : Prop :=
  match env.kindOf x with
  | some .local => ∃ m u, h.Ns env.locals m ∧ m x = some u ∧ VR h v u
  | some .cell | some .free => ∃ c u, env.cells.lookup x = some c ∧ h.IsCell c (some u) ∧ VR h v u
  | _ => True
noncomputable def Own (env : Env) (a : Addr) : Prop := a = env.locals ∨ ∃ x, env.cells.lookup x = some a
noncomputable def OwnAt (env : Env) (x : Str) (a : Addr) : Prop := (env.kindOf x = some .local ∧ a = env.locals) ∨ (env.kindOf x = some .cell ∧ env.cells.lookup x = some a)
theorem OwnAt.own {env : Env} {x : Str} {a : Addr} (h : OwnAt env x a) : Own env a := h.elim (fun h => .inl h.2) fun h => .inr ⟨_, h.2⟩
structure LR (C : Cx) (σ : Store) (h : Heap) (env : Env) (nm : List (String × Nat)) (ρ : Loc) : Prop where
  holds : ∀ x i v, nm.lookup x = some i → ρ.get i = some v → Holds h env (Str.ofString x) v
  locals : ∃ m, h.Ns env.locals m
  lnew : σ env.locals = none ∧ C.base.get? env.locals = none
  cells : ∀ x c, env.cells.lookup x = some c → (∃ v, h.IsCell c v) ∧ σ c = none ∧ C.base.get? c = none
  apart : ∀ x y c, env.cells.lookup x = some c → env.cells.lookup y = some c → x = y
theorem zhK {h h' : Heap} {a : Addr} {m : Str → Option Value} {o : Obj} (hn : h.Ns a m) (ho : h.get? a = some o) (k : KeptAs o (h'.get? a)) : h'.Ns a m := by
  refine ob6 hn ?_
  clear hn
  intro o₁ es ep h1 h2 h3
  rw [ho] at h1; cases h1
  refine ob4 k.some ?_
  intro o' e1 e2 _ _
  exact ⟨o', es, ep, e1, e2.trans h2, h3⟩
theorem zhf {h h' : Heap} {a : Addr} {v : Option Value} (hc : h.IsCell a v) (k : ∀ o, h.get? a = some o → KeptAs o (h'.get? a)) : h'.IsCell a v := by
  refine ob7 hc ?_
  clear hc
  intro o ho hd
  exact ⟨o, (k o ho).plain (fun es n q => by rw [hd] at q; cases q), hd⟩
theorem zb9 {C : Cx} {D : Addr → Prop} {σ σ' : Store} {s s' : Shared} (y : Step C D σ s σ' s') {a : Addr} {o : Obj} (ho : s.heap.get? a = some o) (hn : σ a = none) : σ' a = none := by
  cases q : σ' a with
  | none => rfl
  | some x =>
    rcases y.fresh a (by rw [q]; simp) with z | z
    · exact absurd hn z
    · exact absurd (Heap.lt_size ho) (Nat.not_lt.mpr z)
theorem LR.step {C : Cx} {σ σ' : Store} {s s' : Shared} {env : Env} {nm : List (String × Nat)} {ρ : Loc} (x : LR C σ s.heap env nm ρ) (y : Step C No σ s σ' s') : LR C σ' s'.heap env nm ρ := by
  refine ob8 x.locals ?_
  intro m o es ep hL hLd hLr
  have kL : ∀ o, s.heap.get? env.locals = some o → KeptAs o (s'.heap.get? env.locals) := fun o ho => y.h.keep _ o ho fun d => d.elim (fun z => z x.lnew.1) id
  have kN : ∀ m, s.heap.Ns env.locals m → s'.heap.Ns env.locals m := fun m hm => zhK hm hL (kL o hL)
  have kC : ∀ {n c v}, env.cells.lookup n = some c → s.heap.IsCell c v → s'.heap.IsCell c v := fun {n c v} hc hv => zhf hv fun o ho => y.h.keep _ o ho fun d => d.elim (fun z => z (x.cells _ _ hc).2.1) id
  refine ⟨fun n i v hn hv => ?_, ⟨m, kN m ⟨o, es, ep, hL, hLd, hLr⟩⟩, ⟨zb9 y hL x.lnew.1, x.lnew.2⟩, fun n c hc => ?_, x.apart⟩
  · have := x.holds n i v hn hv
    unfold Holds at this ⊢
    split at this
    · refine ob1 this ?_
      clear this
      intro m u h1 h2 h3
      exact ⟨m, u, kN m h1, h2, y.vr h3⟩
    · refine ob1 this ?_
      clear this
      intro c u h1 h2 h3
      exact ⟨c, u, h1, kC h1 h2, y.vr h3⟩
    · refine ob1 this ?_
      clear this
      intro c u h1 h2 h3
      exact ⟨c, u, h1, kC h1 h2, y.vr h3⟩
    · trivial
  · refine ob9 (x.cells n c hc) ?_
    intro v hv h2 h3
    refine ob7 (id hv) ?_
    intro o' ho' _
    exact ⟨⟨v, kC hc hv⟩, zb9 y ho' h2, h3⟩
theorem LR.own {C : Cx} {σ : Store} {h : Heap} {env : Env} {nm : List (String × Nat)} {ρ : Loc} (x : LR C σ h env nm ρ) : ∀ a, Own env a → ∃ o, h.get? a = some o ∧ ∀ vs, o.data ≠ .fields vs := by
  rintro a (rfl | ⟨n, hc⟩)
  · refine ob8 x.locals ?_
    intro m o es ep hL hLd _
    exact ⟨o, hL, fun vs q => by rw [hLd] at q; cases q⟩
  · refine ob10 (x.cells n a hc) ?_
    intro v o ho hd _
    exact ⟨o, ho, fun vs q => by rw [hd] at q; cases q⟩
theorem NR.keep {h h' : Heap} (k : zbO h h') : ∀ {fs : List (String × V)} {es : List DictEntry}, NR h fs es → NR h' fs es
  | [], [], _ => trivial
  | (_, _) :: _, _ :: _, ⟨a, b, c⟩ => ⟨a, b.keep k, NR.keep k c⟩
  | [], _ :: _, f => f.elim
  | _ :: _, [], f => f.elim
theorem KR.keep {prog : Program} {w : World} {h h' : Heap} {a : Addr} {ks : List V} (x : KR prog w h a ks) (e : h'.get? a = h.get? a) (k : zbO h h') : KR prog w h' a ks := by
  rcases x with ⟨ns, h1, o, es, ep, h2, h3⟩ | ⟨ps, h1, o, es, ep, h2, h3, h4, h5, h6, h7⟩
  · exact .inl ⟨ns, h1, o, es, ep, e.trans h2, h3⟩
  · refine .inr ⟨ps, h1, o, es, ep, e.trans h2, h3, h4, h5, fun x hx => ?_, h7⟩
    refine ob6 (h6 x hx) ?_
    intro o' items n q1 q2 q3
    exact ⟨o', items, n, k _ _ q1 ⟨q2, _, _, q3.1⟩, q2, q3⟩
theorem OR.keep {cls : String → Option Addr} {prog : Program} {w : World} {h h' : Heap} {a : Addr} {o : AO} (x : OR cls prog w h a o) (e : h'.get? a = h.get? a) (k : zbO h h') : OR cls prog w h' a o := by
  cases o with
  | list vs => obtain ⟨xs, n, h1, h2, h3⟩ := x; exact ⟨xs, n, e.trans h1, h2.keep k, h3⟩
  | fixed vs => obtain ⟨xs, ⟨o, h1, h1'⟩, h2, h3⟩ := x; exact ⟨xs, ⟨o, e.trans h1, h1'⟩, h2.keep k, h3⟩
  | dict ks => exact ⟨x.1.keep e k, x.2⟩
  | inst c d => obtain ⟨C, h1, h2⟩ := x; exact ⟨C, h1, e.trans h2⟩
  | ns fs => obtain ⟨es, n, h1, h2, h3⟩ := x; exact ⟨es, n, e.trans h1, h2.keep k, h3⟩
theorem OR.there {cls : String → Option Addr} {prog : Program} {w : World} {h : Heap} {a : Addr} {o : AO} (x : OR cls prog w h a o) : ∃ ob, h.get? a = some ob ∧ ¬ IsT ob ∧ (∀ v, ob.data ≠ .cell v) ∧ ob.cls ≠ .type "frame" ∧ ob.cls ≠ .type "traceback" := by
  have nt : ∀ {ob : Obj}, ob.cls ≠ .type "tuple" → ¬ IsT ob := fun n q => n q.1
  have ty : ∀ {x y : String}, x ≠ y → Value.type x ≠ Value.type y := fun n q => n (by injection q)
  cases o with
  | list vs => obtain ⟨xs, n, h1, h2, h3⟩ := x; exact ⟨_, h1, nt (ty (by decide)), by simp, ty (by decide), ty (by decide)⟩
  | fixed vs => obtain ⟨xs, ⟨o, h1, h4, n, h5⟩, h2, h3⟩ := x; exact ⟨_, h1, nt (by rw [h4]; exact ty (by decide)), by rw [h5]; simp, by rw [h4]; exact ty (by decide), by rw [h4]; exact ty (by decide)⟩
  | dict ks =>
    rcases x.1 with ⟨ns, h1, o, es, ep, h2, h3, h4, _⟩ | ⟨ps, h1, o, es, ep, h2, h3, h4, _⟩
    · exact ⟨o, h2, nt (by rw [h3.1]; exact ty (by decide)), by rw [h4]; simp, by rw [h3.1]; exact ty (by decide), by rw [h3.1]; exact ty (by decide)⟩
    · exact ⟨o, h2, nt (by rw [h3.1]; exact ty (by decide)), by rw [h4]; simp, by rw [h3.1]; exact ty (by decide), by rw [h3.1]; exact ty (by decide)⟩
  | inst c d => obtain ⟨C, h1, h2⟩ := x; exact ⟨_, h2, nt (by simp), by simp, by simp, by simp⟩
  | ns fs => obtain ⟨es, n, h1, h2, h3⟩ := x; exact ⟨_, h1, nt (ty (by decide)), by simp, ty (by decide), ty (by decide)⟩
theorem Rel.frame {C : Cx} {σ : Store} {h h' : Heap} (r : Rel C σ h) (e : ∀ a o, σ a = some o → h'.get? a = h.get? a) (k : zbO h h') (st : C.base.StaysIn h') (hs : h.objs.size ≤ h'.objs.size) : Rel C σ h' :=
  ⟨st, fun a o q => (r.tr a o q).keep (e a o q) k, r.new, Nat.le_trans r.size hs⟩
theorem Step.oneBut {C : Cx} {D : Addr → Prop} {σ : Store} {s : Shared} {h' : Heap} {t : Nat} {a : Addr} {o : Obj} (r : Rel C σ s.heap) (hs : Heap.SameBut a s.heap h') (hn : σ a = none) (hb : C.base.get? a = none) (hD : D a)
    (ho : s.heap.get? a = some o) (ht : ¬ IsT o) : Step C D σ s σ { s with heap := h', toks := t } := by
  have k : zbO s.heap h' := fun b ob e tc => (hs.2 b fun q => by subst q; rw [ho] at e; cases e; exact ht tc).trans e
  refine ⟨⟨Nat.le_of_eq hs.1.symm, fun b ob e n => .inl ((hs.2 b fun q => n (.inr (q ▸ hD))).trans e), k⟩, r.frame (fun b ob q => hs.2 b fun z => by rw [z, hn] at q; cases q) k (fun b ob e => ?_) (Nat.le_of_eq hs.1.symm), fun _ x => x, fun _ x => .inl x, rfl, rfl⟩
  exact (hs.2 b fun q => by rw [q, hb] at e; cases e).trans (r.stays b ob e)
theorem ofString_inj {x y : String} (h : Str.ofString x = Str.ofString y) : x = y := by
  rw [Str.ofString_eq_toList, Str.ofString_eq_toList] at h
  injection h with h
  have h' : x.toList.map Char.toNat = y.toList.map Char.toNat := by simpa using h
  have inj : ∀ a b : List Char, a.map Char.toNat = b.map Char.toNat → a = b := by
    intro a
    induction a with
    | nil => intro b e; cases b with | nil => rfl | cons _ _ => simp at e
    | cons c r ih =>
      intro b e
      cases b with
      | nil => simp at e
      | cons d q =>
        simp only [List.map_cons, List.cons.injEq] at e
        rw [ih q e.2]
        have : c = d := Char.ext (UInt32.toNat_inj.mp e.1)
        rw [this]
  exact String.ext (inj _ _ h')
theorem Loc.get_set_self {ρ : Loc} {i : Nat} {v : Option V} (h : i < ρ.length) : Loc.get (ρ.set i v) i = v := by simp [Loc.get, h]
theorem Loc.get_set_ne {ρ : Loc} {i j : Nat} {v : Option V} (h : j ≠ i) : Loc.get (ρ.set i v) j = Loc.get ρ j := by simp [Loc.get, Ne.symm h]
noncomputable def NmOk (nm : List (String × Nat)) (n : Nat) : Prop := (∀ x y i, nm.lookup x = some i → nm.lookup y = some i → x = y) ∧ ∀ x i, nm.lookup x = some i → i < n
section
variable {C : Cx} {A : Around} {E : Value → Shared → Prop} {σ : Store} {s : Shared} {env : Env} {nm : List (String × Nat)} {ρ : Loc}
theorem zmw {x : String} {i : Nat} {v : V} {pos : Pos} {Q : Value → Shared → Prop} (Ev : EnvOk env) (L : LR C σ s.heap env nm ρ) (hx : nm.lookup x = some i) (hv : ρ.get i = some v)
    (hk : env.kindOf (Str.ofString x) = some .local ∨ env.kindOf (Str.ofString x) = some .cell ∨ env.kindOf (Str.ofString x) = some .free)
    (hd : (Str.ofString x == ("__debug__" : Str)) = false) (hc : (Str.ofString x == ("__classdict__" : Str)) = false)
    (h : ∀ u, VR s.heap v u → Q u s) : wpAny C.M A (eval (.Name (Str.ofString x) pos) env) Q E s := by
  have q := L.holds x i v hx hv
  unfold Holds at q
  refine wpAny_Name ?_ hd
  rcases hk with e | e | e
  · rw [e] at q
    refine ob1 q ?_
    clear q
    intro m u h1 h2 h3
    exact wpAny_loadName_local Ev.kind e h1 h2 (h u h3)
  · rw [e] at q
    refine ob1 q ?_
    clear q
    intro c u h1 h2 h3
    exact wpAny_loadName_cell Ev.kind e h1 h2 (h u h3)
  · rw [e] at q
    refine ob1 q ?_
    clear q
    intro c u h1 h2 h3
    exact wpAny_loadName_free Ev.kind e h1 h2 (h u h3) hc
theorem Holds.frame {h h' : Heap} {x : Str} {v : V} (q : Holds h env x v) (k : zbO h h') (hL : env.kindOf x = some .local → ∀ m u, h.Ns env.locals m → m x = some u → ∃ m', h'.Ns env.locals m' ∧ m' x = some u)
    (hC : ∀ c u, env.cells.lookup x = some c → h.IsCell c u → h'.IsCell c u) : Holds h' env x v := by
  unfold Holds at q ⊢
  split at q
  · rename_i e
    refine ob1 q ?_
    clear q
    intro m u h1 h2 h3
    refine ob7 (hL e m u h1 h2) ?_
    intro m' h4 h5
    exact ⟨m', u, h4, h5, h3.keep k⟩
  · refine ob1 q ?_
    clear q
    intro c u h1 h2 h3
    exact ⟨c, u, h1, hC c _ h1 h2, h3.keep k⟩
  · refine ob1 q ?_
    clear q
    intro c u h1 h2 h3
    exact ⟨c, u, h1, hC c _ h1 h2, h3.keep k⟩
  · trivial
theorem zjQ {h : Heap} {a : Addr} {m m' : Str → Option Value} (x : h.Ns a m) (y : h.Ns a m') : m = m' := by
  refine ob11 x ?_
  clear x
  intro o es ep h1 h2 h3 h4
  refine ob11 y ?_
  clear y
  intro o' es' ep' h1' h2' h3' h4'
  rw [h1] at h1'; cases h1'
  rw [h2] at h2'; cases h2'
  funext n
  rw [← h4 n, ← h4' n]
theorem zkY {x : String} {i n : Nat} {v : V} {u : Value} {Q : Unit → Shared → Prop} (Ev : EnvOk env) (R : Rel C σ s.heap) (L : LR C σ s.heap env nm ρ) (hx : nm.lookup x = some i) (hn : NmOk nm n) (hl : ρ.length = n)
    (hk : env.kindOf (Str.ofString x) = some .local ∨ env.kindOf (Str.ofString x) = some .cell) (hcl : env.kindOf (Str.ofString x) = some .cell → (env.cells.lookup (Str.ofString x)).isSome = true) (hv : VR s.heap v u)
    (h : ∀ s', Step C (OwnAt env (Str.ofString x)) σ s σ s' → LR C σ s'.heap env nm (ρ.set i (some v)) → Q () s') : wpAny C.M A (storeName env (Str.ofString x) u) Q E s := by
  have hi : i < ρ.length := hl ▸ hn.2 x i hx
  have other : ∀ y j w, nm.lookup y = some j → Loc.get (ρ.set i (some v)) j = some w → (y = x ∧ w = v) ∨ (Str.ofString y ≠ Str.ofString x ∧ ρ.get j = some w) := fun y j w hy hw => by
    by_cases e : y = x
    · subst e
      rw [hx] at hy; cases hy
      rw [Loc.get_set_self hi] at hw; cases hw
      exact .inl ⟨rfl, rfl⟩
    · have hji : j ≠ i := fun q => by subst q; exact e (hn.1 y x _ hy hx)
      rw [Loc.get_set_ne hji] at hw
      exact .inr ⟨fun q => e (ofString_inj q), hw⟩
  rcases hk with e | e
  · refine ob12 L.locals ?_
    intro m hm
    refine ob6 (id hm) ?_
    intro o es ep ho hod _
    have hoc : ¬ IsT o := fun ⟨_, _, _, q⟩ => by rw [hod] at q; cases q
    refine wpAny_storeName_local e hm (fun h' hn' hs => ?_) (by rw [Ev.kind]; rfl)
    have st : Step C (OwnAt env (Str.ofString x)) σ s σ { s with heap := h', toks := s.toks + 1 } := Step.oneBut R hs L.lnew.1 L.lnew.2 (.inl ⟨e, rfl⟩) ho hoc
    have cell : ∀ {c w}, s.heap.IsCell c w → h'.IsCell c w := fun {c w} ⟨oc, h1, h2⟩ => ⟨oc, (hs.2 c fun q => by rw [q, ho] at h1; cases h1; rw [hod] at h2; cases h2).trans h1, h2⟩
    refine h _ st ⟨fun y j w hy hw => ?_, ⟨_, hn'⟩, L.lnew, fun y c hc => ?_, L.apart⟩
    · rcases other y j w hy hw with ⟨rfl, rfl⟩ | ⟨ny, hw'⟩
      · unfold Holds
        rw [e]
        exact ⟨_, u, hn', if_pos rfl, st.vr hv⟩
      · refine (L.holds y j w hy hw').frame st.h.tup (fun _ m₁ u₁ hm₁ hu₁ => ⟨_, hn', ?_⟩) fun c u₁ _ hc => cell hc
        rw [if_neg ny, zjQ hm hm₁]; exact hu₁
    · refine ob13 (L.cells y c hc) ?_
      intro w hw r
      exact ⟨⟨w, cell hw⟩, r⟩
  · refine lift fun gg back => ?_
    refine ob12 (Option.isSome_iff_exists.mp (hcl e)) ?_
    intro c hc
    refine ob9 (L.cells _ c hc) ?_
    intro w₀ hw₀ hcn hcb
    refine ob7 (id hw₀) ?_
    intro oc hoc hocd
    refine back ?_
    clear back gg
    have hoc' : ¬ IsT oc := fun ⟨_, _, _, q⟩ => by rw [hocd] at q; cases q
    refine wpAny_storeName_cell Ev.kind e hc hw₀ fun h' hc' hs => ?_
    have st : Step C (OwnAt env (Str.ofString x)) σ s σ { s with heap := h' } := Step.oneBut (t := s.toks) R hs hcn hcb (.inr ⟨e, hc⟩) hoc hoc'
    refine ob12 L.locals ?_
    intro m hm
    have nsk : ∀ m, s.heap.Ns env.locals m → h'.Ns env.locals m := fun m hm => hm.sameBut hs fun q => by
      refine ob6 hm ?_
      clear hm
      intro o es ep ho hod _
      rw [q, hoc] at ho; cases ho; rw [hocd] at hod; cases hod
    have cell : ∀ {c₁ w}, c₁ ≠ c → s.heap.IsCell c₁ w → h'.IsCell c₁ w := fun {c₁ w} n hw => hw.sameBut hs n
    refine h _ st ⟨fun y j w hy hw => ?_, ⟨m, nsk m hm⟩, L.lnew, fun y c₁ hc₁ => ?_, L.apart⟩
    · rcases other y j w hy hw with ⟨rfl, rfl⟩ | ⟨ny, hw'⟩
      · unfold Holds
        rw [e]
        exact ⟨c, u, hc, hc', st.vr hv⟩
      · exact (L.holds y j w hy hw').frame st.h.tup (fun _ m₁ u₁ hm₁ hu₁ => ⟨m₁, nsk _ hm₁, hu₁⟩) fun c₁ u₁ h1 h2 => cell (fun q => ny (L.apart _ _ c (q ▸ h1) hc)) h2
    · refine ob13 (L.cells y c₁ hc₁) ?_
      intro w hw r
      by_cases q : c₁ = c
      · subst q; exact ⟨⟨_, hc'⟩, r⟩
      · exact ⟨⟨w, cell q hw⟩, r⟩
end
end Mine
end
section
namespace Mine
open PySem
structure Dead (h h' : Heap) : Prop where
  size : h.objs.size ≤ h'.objs.size
  dead : ∀ a, a < h.objs.size → h.get? a = none → h'.get? a = none
theorem Dead.refl {h : Heap} : Dead h h := ⟨Nat.le_refl _, fun _ _ e => e⟩
theorem Dead.trans {h₁ h₂ h₃ : Heap} (x : Dead h₁ h₂) (y : Dead h₂ h₃) : Dead h₁ h₃ := ⟨Nat.le_trans x.size y.size, fun a l e => y.dead a (Nat.lt_of_lt_of_le l x.size) (x.dead a l e)⟩
theorem Dead.push {h : Heap} {o : Obj} : Dead h (h.push o) := ⟨by rw [Heap.size_push]; exact Nat.le_succ _, fun a l e => by
  cases q : (h.push o).get? a with
  | none => rfl
  | some o' =>
    refine ob14 (Heap.get?_some_iff.mp q) ?_
    intro e1 e2
    have hne := Nat.ne_of_lt l
    have : h.get? a = some o' := Heap.get?_some_iff.mpr ⟨by cases h; simpa [Heap.push, Array.getElem?_push, hne] using e1, e2⟩
    rw [e] at this; cases this⟩
theorem Dead.update {h : Heap} {a : Addr} {f : Obj → Obj} (ha : (h.get? a).isSome = true) : Dead h (h.update a f) := ⟨by rw [Heap.size_update]; exact Nat.le_refl _, fun b _ e => by
  by_cases q : a = b
  · subst q; rw [e] at ha; cases ha
  · rw [Heap.get?_update_other _ _ q]; exact e⟩
theorem zeP {M : Model} {Γ : Ctx} {p : Pos} {t : Sem PySem.Fin} {fs : List Frame} {s s' : Shared} {e : End} (h : Runs M Γ p t fs s e s') : Dead s.heap s'.heap := by
  induction h with
  | done | raise | yield => exact .refl
  | update ha _ ih => exact (Dead.update ha).trans ih
  | alloc _ ih => exact Dead.push.trans ih
  | call _ _ i1 i2 | segRet _ _ i1 i2 | segGen _ _ i1 i2 => exact i1.trans i2
  | resumeFresh _ _ _ _ i1 i2 | resumeSuspended _ _ _ _ i1 i2 => exact i1.trans i2
  | segSuspGen _ _ _ _ i1 i2 => exact i1.trans i2
  | _ => assumption
theorem ziS {M : Model} {Γ : Ctx} {p : Pos} {g : Nat} {r : Resume} {s s' : Shared} {res : GenResult} (h : Wakes M Γ p g r s res s') : Dead s.heap s'.heap := by
  unfold Wakes at h
  split at h
  · exact h.elim
  · split at h
    · refine ob15 h ?_
      clear h
      intro e₁ s₁ hr _ _ ee1
      subst ee1
      exact (zeP hr : Dead (s.setGen g .running).heap s₁.heap)
    · rw [h.2]; exact .refl
    · rw [h.2]; exact .refl
  · refine ob15 h ?_
    clear h
    intro e₁ s₁ hr _ _ ee2
    subst ee2
    exact (zeP hr : Dead (s.setGen g .running).heap s₁.heap)
  · rw [h.2]; exact .refl
  · rw [h.2]; exact .refl
theorem zlZ {α : Type} (M : Model) (Γ : Ctx) (h₀ : Heap) (t : Sem α) : ∀ (Q : α → Pos → Shared → Prop) (E : Value → Pos → Shared → Prop) (p : Pos) (s : Shared), Dead h₀ s.heap → Sem.wp M Γ t Q E p s →
    Sem.wp M Γ t (fun a p' s' => Dead h₀ s'.heap ∧ Q a p' s') (fun e p' s' => Dead h₀ s'.heap ∧ E e p' s') p s := by
  induction t with
  | pure a => intro Q E p s hn h; exact ⟨hn, h⟩
  | raise e => intro Q E p s hn h; exact ⟨hn, h⟩
  | unsupported _ => intro Q E p s _ h; exact h
  | finish _ => intro Q E p s _ h; exact h
  | rule _ k ih => intro Q E p s hn h; exact ih () Q E p s hn h
  | «at» p' k ih => intro Q E p s hn h; exact ih () Q E p' s hn h
  | load a _ k ih => intro Q E p s hn h; obtain ⟨o, ho, h⟩ := h; exact ⟨o, ho, ih o Q E p s hn h⟩
  | update a _ f k ih => intro Q E p s hn h; exact ⟨h.1, ih () Q E p _ (hn.trans (Dead.update h.1)) h.2⟩
  | loadIfAlive a k ih => intro Q E p s hn h; exact ih _ Q E p s hn h
  | point _ k ih => intro Q E p s hn h; exact ih () Q E p s hn h
  | register _ _ => intro Q E p s _ h; exact h
  | alloc o k ih => intro Q E p s hn h; exact ih _ Q E p _ (hn.trans Dead.push) h
  | fresh k ih => intro Q E p s hn h; exact ih _ Q E p _ hn h
  | ask k ih => intro Q E p s hn h; exact ih _ Q E p s hn h
  | choose src m k ih => intro Q E p s hn h; exact ⟨h.1, ih _ Q E p _ hn h.2⟩
  | os q _ k ih => intro Q E p s hn h; exact ih _ Q E p _ hn h
  | call c hd _ _ k ih => intro Q E p s hn h; obtain ⟨r, s', hr, h⟩ := h; exact ⟨r, s', hr, ih r Q E p s' (hn.trans (zeP hr)) h⟩
  | handled own k ih => intro Q E p s hn h; exact ih _ Q E p s hn h
  | genState g k ih => intro Q E p s hn h; obtain ⟨st, hs, h⟩ := h; exact ⟨st, hs, ih _ Q E p s hn h⟩
  | newGen c k ih => intro Q E p s hn h; exact ih _ Q E p _ hn h
  | resume g r _ k ih => intro Q E p s hn h; obtain ⟨res, s', hw, h⟩ := h; exact ⟨res, s', hw, ih res Q E p s' (hn.trans (ziS hw)) h⟩
  | yield _ _ _ _ => intro Q E p s _ h; exact h
  | stack k ih => intro Q E p s hn h; exact ih _ Q E p s hn h
  | fork _ _ => intro Q E p s _ h; exact h
  | thread k ih => intro Q E p s hn h; exact ih _ Q E p s hn h
  | await _ _ _ _ _ => intro Q E p s _ h; exact h
theorem ziQ {α : Type} {M : Model} {A : Around} {s : Shared} {t : Sem α} {Q : α → Shared → Prop} {E : Value → Shared → Prop}
    (h : wpAny M A t (fun a s' => Dead s.heap s'.heap → Q a s') (fun e s' => Dead s.heap s'.heap → E e s') s) : wpAny M A t Q E s :=
  fun Γ p hΓ => Sem.wp_mono M Γ t (fun _ _ _ x => x.2 x.1) (fun _ _ _ x => x.2 x.1) p s (zlZ M Γ _ t _ _ p s .refl (h Γ p hΓ))
theorem zb4 {α : Type} {M : Model} {A : Around} {s : Shared} {t : Sem α} {Q : α → Shared → Prop} {E : Value → Shared → Prop}
    (h : wpAny M A t (fun a s' => s.heap.objs.size ≤ s'.heap.objs.size → Q a s') (fun e s' => s.heap.objs.size ≤ s'.heap.objs.size → E e s') s) : wpAny M A t Q E s :=
  ziQ (wpAny_mono h (fun _ _ x d => x d.size) fun _ _ x d => x d.size)
end Mine
end
section
set_option linter.unusedVariables false
set_option maxRecDepth 100000
namespace Mine
open PySem PySem.W PyProof.Rows PySem.SeqAt
theorem zl2 (l b : Addr) (p q : Int × Int) (t u t' u' : Tok) (n n2 : Nat) (dd dd2 : Option Addr) (sl sl2 : Array (Option Value)) :
    Meets (Builtin.«tuple.__lt__» ⟨[.ref l, .ref b], []⟩)
      (fun A R s => s.heap.get? l = some { cls := .type "tuple", dict := dd, data := .seq #[.int p.1 t, .int p.2 u] n, slots := sl } ∧ s.heap.get? b = some { cls := .type "tuple", dict := dd2, data := .seq #[.int q.1 t', .int q.2 u'] n2, slots := sl2 } ∧
        R (.ok (.ret (.bool (decide (p.1 < q.1) || (p.1 == q.1 && decide (p.2 < q.2)))))) s) :=
  .of_wp fun prog w A R s h => by
    refine lift fun gg back => ?_
    obtain ⟨hp, g, d, tk, os⟩ := s
    refine ob16 h ?_
    clear h
    intro hl hb h
    refine back ?_
    clear back gg
    have f2 := AutoSeq1.sub_tuple_tuple
    wp_walk using wpAny_loadPart' hl, wpAny_loadPart' hb, wpAny_eqBool_int
    by_cases e : p.1 = q.1
    · rw [e] at h
      simp only [e, beq_self_eq_true, Bool.not_true, Bool.false_eq_true, if_false]
      refine wpAny_pure ?_
      dsimp only
      unfold List.forIn'.loop
      refine wpAny_bind (wpAny_bind (wpAny_eqBool_int ?_))
      by_cases e2 : p.2 = q.2
      · rw [e2] at h
        simp only [e2, beq_self_eq_true, Bool.not_true, Bool.false_eq_true, if_false]
        refine wpAny_pure (wpAny_pure (wpAny_pure ⟨_, rfl, ?_⟩))
        simpa [Builtin.Tuple.tupleCompareSizes] using h
      · simp only [beq_eq_false_iff_ne.mpr e2, Bool.not_false, if_true]
        refine wpAny_bind (wpAny_rule (wpAny_bind (PyProof.Rows.lt_int (wpAny_bind (wpAny_pure (wpAny_pure (wpAny_pure (wpAny_pure ⟨_, rfl, ?_⟩))))))))
        simpa using h
    · simp only [beq_eq_false_iff_ne.mpr e, Bool.not_false, if_true]
      refine wpAny_bind (wpAny_rule (wpAny_bind (PyProof.Rows.lt_int (wpAny_bind (wpAny_pure (wpAny_pure (wpAny_pure (wpAny_pure ⟨_, rfl, ?_⟩))))))))
      rw [beq_eq_false_iff_ne.mpr e, Bool.false_and, Bool.or_false] at h
      exact h
theorem zl1 {l b : Addr} {p q : Int × Int} {t u t' u' : Tok} {n n2 : Nat} {prog : Program} {w : World} {A : Around} {E : Value → Shared → Prop} {s : Shared} {Q : Value → Shared → Prop} (hl : s.heap.get? l = some (seqObj "tuple" #[.int p.1 t, .int p.2 u] n)) (hb : s.heap.get? b = some (seqObj "tuple" #[.int q.1 t', .int q.2 u'] n2)) (hu : A.units < cLine)
    (h : Q (.bool (decide (p.1 < q.1) || (p.1 == q.1 && decide (p.2 < q.2)))) s) : wpAny (model prog w) A (compareOp .Lt (.ref l) (.ref b)) Q E s :=
  richCompare_meets_room (op := .Lt) ⟨_, hl, rfl⟩ ⟨_, hb, rfl⟩ F.slot_tuple_lt F.entry_tuple_lt (F.args_tuple_lt_2 _ _) (zl2 l b p q t u t' u' n n2 none none #[] #[])
    ⟨hl, hb, (fun x => nomatch x), h⟩ hu
end Mine
end
section
namespace Mine
open PySem PySem.W PySem.Calls PyProof.Rows
theorem Rel.none_of_ge {C : Cx} {σ : Store} {h : Heap} (r : Rel C σ h) {a : Addr} (ha : h.objs.size ≤ a) : σ a = none := by
  cases q : σ a with
  | none => rfl
  | some o =>
    refine ob7 ((r.tr a o q).there) ?_
    intro ob ho _
    exact absurd (Heap.lt_size ho) (Nat.not_lt.mpr ha)
theorem zbN {C : Cx} {σ : Store} {h : Heap} (r : Rel C σ h) {a : Addr} (ha : h.objs.size ≤ a) : C.base.get? a = none := by
  cases q : C.base.get? a with
  | none => rfl
  | some o => exact absurd (Heap.lt_size (r.stays a o q)) (Nat.not_lt.mpr ha)
theorem zdH {σ : Store} {a : Addr} {o : AO} : (σ.upd a o) a = some o := if_pos rfl
theorem zcy {σ : Store} {a b : Addr} {o : AO} (h : b ≠ a) : (σ.upd a o) b = σ b := if_neg h
theorem Step.grow {C : Cx} {σ : Store} {s : Shared} {h' : Heap} {t : Nat} (r : Rel C σ s.heap) (k : ∀ b ob, s.heap.get? b = some ob → h'.get? b = some ob) (hs : s.heap.objs.size ≤ h'.objs.size) :
    Step C No σ s σ { s with heap := h', toks := t } :=
  ⟨.grow k hs, r.frame (fun a o q => by obtain ⟨ob, ho, _⟩ := (r.tr a o q).there; rw [ho, k _ _ ho]) (fun a o e _ => k a o e) (fun a o e => k a o (r.stays a o e)) hs, fun _ x => x, fun _ x => .inl x, rfl, rfl⟩
theorem Step.alloc {C : Cx} {σ : Store} {s : Shared} {h' : Heap} {t : Nat} {a : Addr} {o : AO} (r : Rel C σ s.heap) (k : ∀ b ob, s.heap.get? b = some ob → h'.get? b = some ob) (hs : s.heap.objs.size ≤ h'.objs.size)
    (ha : s.heap.objs.size ≤ a) (hO : OR C.cls C.prog C.w h' a o) : Step C No σ s (σ.upd a o) { s with heap := h', toks := t } := by
  refine ⟨.grow k hs, ⟨fun b ob e => k b ob (r.stays b ob e), fun b ob q => ?_, fun b ob q => ?_, Nat.le_trans r.size hs⟩, fun b n => ?_, fun b n => ?_, rfl, rfl⟩
  · by_cases e : b = a
    · subst e; rw [zdH] at q; cases q; exact hO
    · rw [zcy e] at q
      refine ob7 ((r.tr b ob q).there) ?_
      intro ob' ho _
      exact (r.tr b ob q).keep (by rw [ho, k _ _ ho]) fun a o e _ => k a o e
  · by_cases e : b = a
    · subst e; exact .inl (Nat.le_trans r.size ha)
    · rw [zcy e] at q; exact r.new b ob q
  · by_cases e : b = a
    · subst e; rw [zdH]; simp
    · rw [zcy e]; exact n
  · by_cases e : b = a
    · subst e; exact .inr ha
    · rw [zcy e] at n; exact .inl n
theorem Step.turn {C : Cx} {σ : Store} {s : Shared} {h' : Heap} {t : Nat} {a : Addr} {o₀ o : AO} (r : Rel C σ s.heap) (h₀ : σ a = some o₀) (hf : ∀ vs, o₀ ≠ .fixed vs) (hs : Heap.SameBut a s.heap h') (hO : zbO s.heap h' → OR C.cls C.prog C.w h' a o) :
    Step C No σ s (σ.upd a o) { s with heap := h', toks := t } := by
  refine ob2 ((r.tr a o₀ h₀).there) ?_
  intro ob₀ hob hnt _
  have k : zbO s.heap h' := fun b ob e tc => (hs.2 b fun q => by subst q; rw [hob] at e; cases e; exact hnt tc).trans e
  have hbs : C.base.objs.size ≤ a := (r.new a o₀ h₀).elim id fun ⟨vs, e⟩ => absurd e (hf vs)
  have hb : C.base.get? a = none := by
    cases q : C.base.get? a with
    | none => rfl
    | some o => exact absurd (Heap.lt_size q) (Nat.not_lt.mpr hbs)
  refine ⟨⟨Nat.le_of_eq hs.1.symm, fun b ob e n => .inl ((hs.2 b fun q => n (.inl (by rw [q, h₀]; simp))).trans e), k⟩, ⟨fun b ob e => (hs.2 b fun q => by rw [q, hb] at e; cases e).trans (r.stays b ob e), fun b ob q => ?_, fun b ob q => ?_, Nat.le_trans r.size (Nat.le_of_eq hs.1.symm)⟩,
    fun b n => ?_, fun b n => ?_, rfl, rfl⟩
  · by_cases e : b = a
    · subst e; rw [zdH] at q; cases q; exact hO k
    · rw [zcy e] at q; exact (r.tr b ob q).keep (hs.2 b e) k
  · by_cases e : b = a
    · subst e; exact .inl hbs
    · rw [zcy e] at q; exact r.new b ob q
  · by_cases e : b = a
    · subst e; rw [zdH]; simp
    · rw [zcy e]; exact n
  · by_cases e : b = a
    · subst e; exact .inl (by rw [h₀]; simp)
    · rw [zcy e] at n; exact .inl n
theorem zd4 {n : Nat} (h : n ≤ zbb) : n ≤ sizeLine := Nat.le_trans h (by decide)
theorem zbq {σ : Store} {v : V} {K : Addr → List V → Prop} (h : zbw σ v K) : ∃ a vs, v = .ref a ∧ σ a = some (.list vs) ∧ K a vs := by
  cases v with
  | ref a =>
    change (match σ a with | some (.list vs) => K a vs | _ => False) at h
    cases e : σ a with
    | none => rw [e] at h; exact h.elim
    | some o =>
      rw [e] at h
      cases o with
      | list vs => exact ⟨a, vs, rfl, e, h⟩
      | _ => exact h.elim
  | _ => exact h.elim
theorem za6 {α : Type} {o : Option α} {K : α → Prop} (h : za9 o K) : ∃ a, o = some a ∧ K a := by
  cases o with
  | none => exact h.elim
  | some a => exact ⟨a, rfl, h⟩
theorem zby {v : V} {K : Int → Prop} (h : zec v K) : ∃ i, v = .int i ∧ K i := by
  cases v <;> first | exact h.elim | exact ⟨_, rfl, h⟩
theorem zdW {σ : Store} {v : V} {K : String → Addr → List (String × V) → Prop} (h : zfE σ v K) : ∃ a c d fs, v = .ref a ∧ σ a = some (.inst c d) ∧ σ d = some (.ns fs) ∧ K c d fs := by
  cases v with
  | ref a =>
    change (match σ a with | some (.inst c d) => (match σ d with | some (.ns fs) => K c d fs | _ => False) | _ => False) at h
    cases e : σ a with
    | none => rw [e] at h; exact h.elim
    | some o =>
      rw [e] at h
      cases o with
      | inst c d =>
        change (match σ d with | some (.ns fs) => K c d fs | _ => False) at h
        cases e' : σ d with
        | none => rw [e'] at h; exact h.elim
        | some o =>
          rw [e'] at h
          cases o with
          | ns fs => exact ⟨a, c, d, fs, rfl, e, e', h⟩
          | _ => exact h.elim
      | _ => exact h.elim
  | _ => exact h.elim
theorem VR.int_of {h : Heap} {i : Int} {x : Value} (v : VR h (.int i) x) : ∃ t, x = .int i t := by cases v; exact ⟨_, rfl⟩
theorem VR.bool_of {h : Heap} {b : Bool} {x : Value} (v : VR h (.bool b) x) : x = .bool b := by cases v; rfl
theorem VR.none_of {h : Heap} {x : Value} (v : VR h .none x) : x = .none := by cases v; rfl
theorem VR.ref_of {h : Heap} {a : Addr} {x : Value} (v : VR h (.ref a) x) : x = .ref a := by cases v; rfl
theorem VR.tup_of {h : Heap} {vs : List V} {x : Value} (v : VR h (.tup vs) x) : ∃ a xs n, x = .ref a ∧ h.get? a = some (seqObj "tuple" xs.toArray n) ∧ VRs h vs xs := by
  cases v with | tup e r => exact ⟨_, _, _, rfl, e, r⟩
theorem Rel.list {C : Cx} {σ : Store} {h : Heap} (r : Rel C σ h) {a : Addr} {vs : List V} (e : σ a = some (.list vs)) : ∃ xs n, IsL h a xs.toArray n ∧ VRs h vs xs ∧ vs.length ≤ zbb := r.tr a _ e
structure Room (C : Cx) (md : Bool) (A : Around) : Prop where
  handled : md = true → A.handled = none
  depth : A.depth + 3 < 990
  units : A.units + 80 < 9000
section
variable {C : Cx} {A : Around} {E : Value → Shared → Prop} {σ : Store} {s : Shared} {Q : V → Store → Prop}
theorem PostV.now {v : V} {x : Value} (r : Rel C σ s.heap) (q : Q v σ) (h : VR s.heap v x) : PostV C σ s Q x s := ⟨v, σ, q, h, .refl r⟩
theorem PostV.tok {v : V} {x : Value} {t : Nat} (r : Rel C σ s.heap) (q : Q v σ) (h : VR s.heap v x) : PostV C σ s Q x { s with toks := t } := ⟨v, σ, q, h, .toks r t⟩
theorem zdL {xs : List Value} {vs : List V} {h' : Heap} {t n : Nat} {a : Addr} (r : Rel C σ s.heap) (q : Mine.alloc σ (.list vs) Q) (k : ∀ b ob, s.heap.get? b = some ob → h'.get? b = some ob) (hs : s.heap.objs.size ≤ h'.objs.size)
    (ha : s.heap.objs.size ≤ a) (hO : h'.get? a = some (seqObj "list" xs.toArray n)) (hv : VRs s.heap vs xs) (hl : vs.length ≤ zbb) : PostV C σ s Q (.ref a) { s with heap := h', toks := t } :=
  ⟨.ref a, σ.upd a (.list vs), q a (r.none_of_ge ha), .ref, .alloc r k hs ha ⟨xs, n, hO, hv.keep fun b o e _ => k b o e, hl⟩⟩
theorem zbd {h : Heap} {o : Obj} : ∀ b ob, h.get? b = some ob → (h.push o).get? b = some ob := fun _ _ e => Heap.get?_push_of_some _ e
theorem zbn {h : Heap} {o : Obj} : h.objs.size ≤ (h.push o).objs.size := by rw [Heap.size_push]; exact Nat.le_succ _
theorem zjm {a : Int} (h : a.natAbs < 2 ^ 32) : Builtin.Int.intBits a ≤ 64 := by
  unfold Builtin.Int.intBits
  split
  · exact Nat.zero_le _
  · rename_i q
    have h0 : a.natAbs ≠ 0 := fun z => q (by rw [Int.natAbs_eq_zero.mp z]; rfl)
    have := (Nat.log2_lt h0).mpr h
    lia
theorem zke {h : Heap} {u v : V} {x y : Value} {K : Int → Int → Prop} {W : Value → Value → Prop} (hu : VR h u x) (hv : VR h v y) (q : onII u v K) (g : ∀ a b t t', K a b → W (.int a t) (.int b t')) : W x y := by
  cases hu <;> first | exact q.elim | skip
  cases hv <;> first | exact q.elim | skip
  exact g _ _ _ _ q
theorem znU {op : Operator} {u v : V} {x y : Value} (r : Rel C σ s.heap) (hu : VR s.heap u x) (hv : VR s.heap v y) (h : binV op u v σ Q) :
    wpAny C.M A (binaryOp op x y) (PostV C σ s Q) E s := by
  cases op with
  | Add =>
    by_cases hr : ∃ a, u = .ref a
    · refine ob12 hr ?_
      clear hr
      intro a ee3
      subst ee3
      have h : zbw σ (.ref a) fun _ us => zbw σ v fun _ vs => us.length + vs.length ≤ zbb ∧ alloc σ (.list (us ++ vs)) Q := h
      refine ob1 (zbq h) ?_
      intro _ us e ha h
      cases e
      refine lift fun gg back => ?_
      refine ob15 (zbq h) ?_
      intro b vs ee4
      subst ee4
      intro hb hz h
      cases hu.ref_of
      cases hv.ref_of
      refine ob1 (r.list ha) ?_
      intro xs n hL hX _
      refine ob1 (r.list hb) ?_
      intro ys m hL' hY _
      refine back ?_
      clear back gg
      have e1 := hX.length
      have e2 := hY.length
      refine P.add_list hL hL' ?_ (by simp only [List.size_toArray]; exact zd4 (by lia))
      refine zdL (xs := xs ++ ys) (n := 0) (t := s.toks) r h zbd zbn (Nat.le_refl _) ?_ (hX.append hY) (by simp; lia)
      rw [Heap.get?_push_size _ rfl]; simp
    · have h' : onII u v fun a b => Q (.int (a + b)) σ := by
        cases u <;> first | exact h | exact absurd ⟨_, rfl⟩ hr
      exact zke (W := fun x y => wpAny C.M A (binaryOp .Add x y) (PostV C σ s Q) E s) hu hv h' fun a b t t' h => add_int (.tok r h .int)
  | Sub => exact zke (W := fun x y => wpAny C.M A (binaryOp .Sub x y) (PostV C σ s Q) E s) hu hv h fun a b t t' h => sub_int' (.tok r h .int)
  | Mult => exact zke (W := fun x y => wpAny C.M A (binaryOp .Mult x y) (PostV C σ s Q) E s) hu hv h fun a b t t' h => PyProof.Rows.mul_int (.tok r h.2 .int) (IntMulOk.of_left (zjm h.1.1))
  | FloorDiv => exact zke (W := fun x y => wpAny C.M A (binaryOp .FloorDiv x y) (PostV C σ s Q) E s) hu hv h fun a b t t' h => PyProof.Rows.floordiv_int (Int.ne_of_gt h.1.1) (.tok r h.2 .int) (.inl (PyProof.noPylong_small (by lia)))
  | Mod => exact zke (W := fun x y => wpAny C.M A (binaryOp .Mod x y) (PostV C σ s Q) E s) hu hv h fun a b t t' h => PyProof.Rows.mod_int' (Int.ne_of_gt h.1) (.tok r h.2 .int)
  | _ => exact h.elim
theorem zcu {h : Heap} {a : Addr} {xs : List Value} {n : Nat} (e : h.get? a = some (seqObj "tuple" xs.toArray n)) : h.IsTuple a xs.toArray := ⟨_, e, rfl, n, rfl⟩
theorem zdg {a : Addr} {vs : List V} (r : Rel C σ s.heap) (e : σ a = some (.list vs)) : ∃ xs, s.heap.IsList a xs.toArray ∧ VRs s.heap vs xs := let ⟨xs, _, h1, h2, _⟩ := r.list e; ⟨xs, h1.isList, h2⟩
theorem zcH {f : V → V → Option Bool} : ∀ {us vs : List V} {b : Bool}, zb0 f us vs = some b →
    (∀ j (h1 : j < us.length) (h2 : j < vs.length), ∃ c, f us[j] vs[j] = some c) ∧ b = ((List.range (min us.length vs.length)).all (fun j => ((f (us.getD j .none) (vs.getD j .none)).getD false)) && us.length == vs.length)
  | [], [], b, e => by cases e; exact ⟨fun j h => absurd h (Nat.not_lt_zero j), rfl⟩
  | u :: us, v :: vs, b, e => by
    change (match f u v, zb0 f us vs with | some a, some b => some (a && b) | _, _ => none) = _ at e
    split at e
    · rename_i a c e1 e2
      cases e
      refine ob14 (zcH e2) ?_
      intro h1 h2
      refine ⟨fun j j1 j2 => ?_, ?_⟩
      · cases j with
        | zero => exact ⟨a, e1⟩
        | succ j => exact h1 j (by simpa using j1) (by simpa using j2)
      · rw [List.length_cons, List.length_cons, Nat.succ_min_succ, List.range_succ_eq_map, List.all_cons, List.all_map]
        simp only [List.getD_cons_zero, e1, Option.getD_some, h2, Bool.and_assoc]
        simp [Function.comp_def]
    · cases e
  | [], _ :: _, b, e => by cases e; exact ⟨fun j h => absurd h (Nat.not_lt_zero j), rfl⟩
  | _ :: _, [], b, e => by cases e; exact ⟨fun j _ h => absurd h (Nat.not_lt_zero j), rfl⟩
theorem VRs.at {h : Heap} {v : List V} {x : List Value} (r : VRs h v x) (j : Nat) (h1 : j < v.length) (h2 : j < x.length) : VR h v[j] x[j] := by
  refine ob7 (r.get (List.getElem?_eq_getElem h1)) ?_
  intro b e q
  rw [List.getElem?_eq_getElem h2] at e
  cases e; exact q
theorem zcX {a : Addr} {vs : List V} {xs : List Value} {n : Nat} (r : Rel C σ s.heap) (e : σ a = some (.list vs)) (q : s.heap.get? a = some (seqObj "tuple" xs.toArray n)) : False := by
  refine ob17 (r.list e) ?_
  intro ys m h1 _
  have h1 := q.symm.trans h1
  injection h1 with h1
  have := congrArg Obj.cls h1
  injection this with this
  exact absurd this (by decide)
inductive EqB : V → V → Bool → Prop
  | none : EqB .none .none true
  | bb {a b} : EqB (.bool a) (.bool b) (a == b)
  | ii {a b} : EqB (.int a) (.int b) (a == b)
  | ss {a b} : EqB (.str a) (.str b) (a == b)
inductive EqC (σ : Store) : Nat → V → V → Bool → Prop
  | b {n u v b} : EqB u v b → EqC σ n u v b
  | tt {n us vs b} : zb0 (eqv σ n) us vs = some b → EqC σ (n + 1) (.tup us) (.tup vs) b
  | rr {n a b us vs c} : σ a = some (.list us) → σ b = some (.list vs) → us.length = vs.length → zb0 (eqv σ n) us vs = some c → EqC σ (n + 1) (.ref a) (.ref b) c
  | rl {n a b us vs} : σ a = some (.list us) → σ b = some (.list vs) → us.length ≠ vs.length → EqC σ (n + 1) (.ref a) (.ref b) false
theorem zbh {α : Type} {a : α} {G : Prop} (h : none = some a) : G := by cases h
theorem ziu {u v : V} {b : Bool} (e : eqB u v = some b) : EqB u v b := by
  cases u with
  | none => cases v with
    | none => cases e; exact .none
    | _ => exact zbh e
  | bool a => cases v with
    | bool b => cases e; exact .bb
    | _ => exact zbh e
  | int a => cases v with
    | int b => cases e; exact .ii
    | _ => exact zbh e
  | str a => cases v with
    | str b => cases e; exact .ss
    | _ => exact zbh e
  | _ => exact zbh e
theorem zhl {o : Option AO} {us : List V} (e : asL o = some us) : o = some (.list us) := by
  cases o with
  | none => exact zbh e
  | some o => cases o with
    | list vs => cases e; rfl
    | _ => exact zbh e
theorem zfL {n : Nat} {u v : V} {b : Bool} (e : eqv σ n u v = some b) : EqC σ n u v b := by
  cases n with
  | zero => exact .b (ziu e)
  | succ n => cases u with
    | tup us => cases v with
      | tup vs => exact .tt e
      | _ => exact zbh e
    | ref a => cases v with
      | ref c =>
        refine ob7 (Option.bind_eq_some_iff.mp e) ?_
        intro us h1 e
        refine ob7 (Option.bind_eq_some_iff.mp e) ?_
        intro vs h2 e
        by_cases hl : us.length = vs.length
        · rw [if_pos hl] at e; exact .rr (zhl h1) (zhl h2) hl e
        · rw [if_neg hl] at e; cases e; exact .rl (zhl h1) (zhl h2) hl
      | _ => exact zbh e
    | _ => exact .b (ziu e)
theorem zid {h : Heap} {a : Addr} {xs ys : List Value} {n m : Nat} (q1 : h.get? a = some (seqObj "tuple" xs.toArray n)) (q2 : h.get? a = some (seqObj "tuple" ys.toArray m)) : xs = ys := by
  rw [q1] at q2
  injection q2 with q2
  have := congrArg Obj.data q2
  injection this with this _
  exact congrArg Array.toList this
theorem zdZ {us : List V} {j : Nat} (h : j < us.length) : us.getD j .none = us[j] := by simp [h]
theorem zit {h : Heap} {u v : V} {x : Value} {b : Bool} (hu : VR h u x) (hv : VR h v x) (e : EqB u v b) : b = true := by
  cases e with
  | none => rfl
  | bb => cases hu; cases hv; exact beq_self_eq_true _
  | ii => cases hu; cases hv; exact beq_self_eq_true _
  | ss => cases hu; cases hv; exact beq_self_eq_true _
theorem zgk (r : Rel C σ s.heap) : ∀ (n : Nat) {u v : V} {x : Value} {b : Bool}, VR s.heap u x → VR s.heap v x → eqv σ n u v = some b → b = true := by
  intro n
  induction n with
  | zero =>
    intro u v x b hu hv e
    exact zit hu hv (ziu e)
  | succ n ih =>
    have lists : ∀ {us vs : List V} {xs : List Value} {b : Bool}, VRs s.heap us xs → VRs s.heap vs xs → zb0 (eqv σ n) us vs = some b → b = true := by
      intro us vs xs b hu hv e
      have hl : us.length = vs.length := hu.length.trans hv.length.symm
      refine ob14 (zcH e) ?_
      intro h1 h2
      rw [h2, hl, beq_self_eq_true, Bool.and_true, Nat.min_self, List.all_eq_true]
      intro j hj
      have hj1 : j < us.length := hl ▸ List.mem_range.mp hj
      have hj2 : j < vs.length := hl ▸ hj1
      have hj3 : j < xs.length := hu.length ▸ hj1
      refine ob12 (h1 j hj1 hj2) ?_
      intro c hc
      rw [zdZ hj1, zdZ hj2, hc, ih (hu.at j hj1 hj3) (hv.at j hj2 hj3) hc]; rfl
    intro u v x b hu hv e
    cases zfL e with
    | b e => exact zit hu hv e
    | tt e' => cases hu with | tup q1 r1 => cases hv with | tup q2 r2 => cases zid q1 q2; exact lists r1 r2 e'
    | rr e1 e2 _ e' =>
      cases hu; cases hv
      rw [e1] at e2; cases e2
      refine ob1 (r.list e1) ?_
      intro xs n _ hX _
      exact lists hX hX e'
    | rl e1 e2 hl =>
      cases hu; cases hv
      rw [e1] at e2; cases e2
      exact absurd rfl hl
theorem VR.inv {h : Heap} {u : V} {x : Value} (hu : VR h u x) : match x with
    | .none => u = .none
    | .bool b => u = .bool b
    | .int i _ => u = .int i
    | .str z _ => u = .str z
    | .ref a => u = .ref a ∨ ∃ us xs n, u = .tup us ∧ h.get? a = some (seqObj "tuple" xs.toArray n) ∧ VRs h us xs
    | _ => False := by
  cases hu with
  | tup q r => exact .inr ⟨_, _, _, rfl, q, r⟩
  | ref => exact .inl rfl
  | _ => rfl
theorem VR.same_kind (r : Rel C σ s.heap) {u u' v : V} {x : Value} {n : Nat} {b b' : Bool} (hu : VR s.heap u x) (hu' : VR s.heap u' x) (e : EqC σ n u v b) (e' : EqC σ n u' v b') : u = u' ∨ ∃ us us' xs, u = .tup us ∧ u' = .tup us' ∧ VRs s.heap us xs ∧ VRs s.heap us' xs := by
  have i1 := hu.inv
  have i2 := hu'.inv
  cases x with
  | ref a =>
    rcases i1 with rfl | ⟨us, xs, n, rfl, q1, r1⟩ <;> rcases i2 with rfl | ⟨us', xs', n', rfl, q2, r2⟩
    · exact .inl rfl
    · cases e with
      | b e => cases e
      | rr h => exact (zcX r h q2).elim
      | rl h => exact (zcX r h q2).elim
    · cases e' with
      | b e => cases e
      | rr h => exact (zcX r h q1).elim
      | rl h => exact (zcX r h q1).elim
    · cases zid q1 q2; exact .inr ⟨_, _, _, rfl, rfl, r1, r2⟩
  | none => exact .inl (i1.trans i2.symm)
  | bool _ => exact .inl (i1.trans i2.symm)
  | int _ _ => exact .inl (i1.trans i2.symm)
  | str _ _ => exact .inl (i1.trans i2.symm)
  | _ => exact i1.elim
theorem zmY (r : Rel C σ s.heap) : ∀ (n : Nat) {u u' v : V} {x : Value} {b b' : Bool}, VR s.heap u x → VR s.heap u' x → eqv σ n u v = some b → eqv σ n u' v = some b' → b = b' := by
  intro n
  induction n with
  | zero =>
    intro u u' v x b b' hu hu' e e'
    rcases VR.same_kind r hu hu' (zfL e) (zfL e') with rfl | ⟨us, us', xs, rfl, rfl, _, _⟩
    · rw [e] at e'; exact Option.some.inj e'
    · exact zbh e
  | succ n ih =>
    intro u u' v x b b' hu hu' e e'
    rcases VR.same_kind r hu hu' (zfL e) (zfL e') with rfl | ⟨us, us', xs, rfl, rfl, r1, r2⟩
    · rw [e] at e'; exact Option.some.inj e'
    · cases v with
      | tup ws =>
        refine ob14 (zcH (show zb0 (eqv σ n) us ws = some b from e)) ?_
        intro h1 h2
        refine ob14 (zcH (show zb0 (eqv σ n) us' ws = some b' from e')) ?_
        intro h1' h2'
        have hlen : us.length = us'.length := r1.length.trans r2.length.symm
        rw [h2, h2', hlen]
        have : ∀ j ∈ List.range (min us'.length ws.length), ((eqv σ n (us.getD j .none) (ws.getD j .none)).getD false) = ((eqv σ n (us'.getD j .none) (ws.getD j .none)).getD false) := fun j hj => by
          have hjm := List.mem_range.mp hj
          have hj1 : j < us'.length := Nat.lt_of_lt_of_le hjm (Nat.min_le_left ..)
          have hj0 : j < us.length := hlen ▸ hj1
          have hj2 : j < ws.length := Nat.lt_of_lt_of_le hjm (Nat.min_le_right ..)
          have hj3 := r1.length ▸ hj0
          refine ob12 (h1 j hj0 hj2) ?_
          intro c hc
          refine ob12 (h1' j hj1 hj2) ?_
          intro c' hc'
          rw [zdZ hj0, zdZ hj1, zdZ hj2, hc, hc', ih (r1.at j hj0 hj3) (r2.at j hj1 hj3) hc hc']
        congr 1
        rw [Bool.eq_iff_iff, List.all_eq_true, List.all_eq_true]
        exact ⟨fun q j hj => by rw [← this j hj]; exact q j hj, fun q j hj => by rw [this j hj]; exact q j hj⟩
      | _ => exact zbh e
open PySem.SeqAt in
theorem ze4 {A : Around} {s : Shared} {l b : Addr} {k : Bool} (hs : l = b → k = true) (h : RcAt A s (.ref l) (.ref b) k) : EqAt A s (.ref l) (.ref b) k := by
  by_cases q : l = b
  · subst q; rw [hs rfl]; exact .same _
  · exact .of_refs q h
open PySem.SeqAt in
theorem zlV {A : Around} {u v : V} {x y : Value} {b : Bool} (hu : VR s.heap u x) (hv : VR s.heap v y) (e : EqB u v b) : EqAt A s x y b ∧ RcAt A s x y b ∧ RcNeAt A s x y (!b) := by
  cases e with
  | none => cases hu; cases hv; exact ⟨.same _, .none_none, .none_none⟩
  | bb => cases hu; cases hv; exact ⟨.bool_bool _ _, .bool_bool _ _, .bool_bool _ _⟩
  | ii => cases hu; cases hv; exact ⟨.int_int _ _ _ _, .int_int _ _ _ _, .int_int _ _ _ _⟩
  | ss => cases hu; cases hv; exact ⟨.str_str _ _ _ _, .str_str _ _ _ _, .str_str _ _ _ _⟩
open PySem.SeqAt in
theorem zkp : ∀ (n : Nat) {A : Around} {u v : V} {x y : Value} {b : Bool}, Rel C σ s.heap → A.units + n < cLine → VR s.heap u x → VR s.heap v y → eqv σ n u v = some b → EqAt A s x y b ∧ RcAt A s x y b ∧ RcNeAt A s x y (!b) := by
  intro n
  induction n with
  | zero =>
    intro A u v x y b r hA hu hv e
    exact zlV hu hv (ziu e)
  | succ n ih =>
    intro A u v x y b r hA hu hv e
    have e0 := e
    have hA1 : A.in1.units + n < cLine := by rw [Around.in1_units]; lia
    have hA0 : A.units < cLine := by lia
    clear hA
    have els : ∀ {us vs : List V} {xs ys : List Value} {b : Bool}, VRs s.heap us xs → VRs s.heap vs ys → zb0 (eqv σ n) us vs = some b →
        (∀ j (h1 : j < xs.toArray.size) (h2 : j < ys.toArray.size), EqAt A.in1 s xs.toArray[j] ys.toArray[j] ((eqv σ n (us.getD j .none) (vs.getD j .none)).getD false)) ∧ b = ((List.range (min xs.toArray.size ys.toArray.size)).all (fun j => ((eqv σ n (us.getD j .none) (vs.getD j .none)).getD false)) && xs.toArray.size == ys.toArray.size) := by
      intro us vs xs ys b hX hY e
      refine ob14 (zcH e) ?_
      intro h1 h2
      have lx := hX.length; have ly := hY.length
      refine ⟨fun j j1 j2 => ?_, by rw [h2, List.size_toArray, List.size_toArray, lx, ly]⟩
      rw [List.size_toArray] at j1 j2
      refine ob12 (h1 j (lx ▸ j1) (ly ▸ j2)) ?_
      intro c hc
      rw [zdZ (lx ▸ j1), zdZ (ly ▸ j2), hc]
      exact (ih (A := A.in1) r hA1 (hX.at j (lx ▸ j1) j1) (hY.at j (ly ▸ j2) j2) hc).1
    cases zfL e with
    | b e => exact zlV hu hv e
    | rr h1 h2 hl e' =>
      have hs : x = y → b = true := fun q => zgk r _ hu (q ▸ hv) e0
      cases hu; cases hv
      refine lift fun gg back => ?_
      refine ob7 (zdg r h1) ?_
      intro xs hx hX
      refine ob7 (zdg r h2) ?_
      intro ys hy hY
      refine ob14 (els hX hY e') ?_
      intro k1 k2
      refine back ?_
      clear back gg
      have hsz : xs.toArray.size = ys.toArray.size := by rw [List.size_toArray, List.size_toArray, ← hX.length, ← hY.length, hl]
      have R1 := RcAt.lists (A := A) hx hy hsz hA0 k1
      have R2 := RcNeAt.lists (A := A) hx hy hsz hA0 k1
      rw [← hsz, Nat.min_self, beq_self_eq_true, Bool.and_true] at k2
      rw [← k2] at R1 R2
      exact ⟨ze4 (fun q => hs (by rw [q])) R1, R1, R2⟩
    | rl h1 h2 hl =>
      have hs : x = y → false = true := fun q => zgk r _ hu (q ▸ hv) e0
      cases hu; cases hv
      refine ob7 (zdg r h1) ?_
      intro xs hx hX
      refine ob7 (zdg r h2) ?_
      intro ys hy hY
      have hsz : (xs.toArray.size != ys.toArray.size) = true := by rw [List.size_toArray, List.size_toArray, ← hX.length, ← hY.length]; exact bne_iff_ne.mpr hl
      have R1 := RcAt.lists_lengths (A := A) hx hy hsz hA0
      exact ⟨ze4 (fun q => hs (by rw [q])) R1, R1, RcNeAt.lists_lengths (A := A) hx hy hsz hA0⟩
    | tt e' =>
      have hs : x = y → b = true := fun q => zgk r _ hu (q ▸ hv) e0
      cases hu with | tup q1 hX => cases hv with | tup q2 hY =>
      refine ob14 (els hX hY e') ?_
      intro k1 k2
      have R1 := RcAt.tuples (A := A) (zcu q1) (zcu q2) hA0 k1
      have R2 := RcNeAt.tuples (A := A) (zcu q1) (zcu q2) hA0 k1
      rw [← k2] at R1 R2
      exact ⟨ze4 (fun q => hs (by rw [q])) R1, R1, R2⟩
theorem zin {x : V} : ∀ {ys : List V} {b : Bool}, memV σ x ys = some b → (∀ y ∈ ys, ∃ c, eqv σ fuel y x = some c) ∧ (b = true ↔ ∃ y ∈ ys, eqv σ fuel y x = some true)
  | [], b, e => by simp [memV] at e; subst e; simp
  | y :: ys, b, e => by
    simp only [memV] at e
    split at e
    · rename_i a c e1 e2
      cases e
      refine ob14 (zin e2) ?_
      intro h1 h2
      refine ⟨fun z hz => ?_, ?_⟩
      · rcases List.mem_cons.mp hz with rfl | hz
        · exact ⟨a, e1⟩
        · exact h1 z hz
      · rw [Bool.or_eq_true, h2]
        constructor
        · rintro (rfl | ⟨z, hz, q⟩)
          · exact ⟨y, List.mem_cons_self, e1⟩
          · exact ⟨z, List.mem_cons_of_mem _ hz, q⟩
        · intro zz1
          refine ob7 zz1 ?_
          clear zz1
          intro z hz q
          rcases List.mem_cons.mp hz with rfl | hz
          · rw [e1] at q; exact .inl (Option.some.inj q)
          · exact .inr ⟨z, hz, q⟩
    · cases e
theorem VRs.mem {h : Heap} {v : List V} {x : List Value} (r : VRs h v x) (y : Value) (hy : y ∈ x) : ∃ u ∈ v, VR h u y :=
  r.ind (P := fun v x => y ∈ x → ∃ u ∈ v, VR h u y) (fun e => absurd e List.not_mem_nil) (fun a _ ih e => by
    rcases List.mem_cons.mp e with rfl | e
    · exact ⟨_, List.mem_cons_self, a⟩
    · refine ob7 (ih e) ?_
      intro u h1 h2
      exact ⟨u, List.mem_cons_of_mem _ h1, h2⟩) hy
theorem VRs.mem' {h : Heap} {v : List V} {x : List Value} (r : VRs h v x) (u : V) (hu : u ∈ v) : ∃ y ∈ x, VR h u y :=
  r.ind (P := fun v x => u ∈ v → ∃ y ∈ x, VR h u y) (fun e => absurd e List.not_mem_nil) (fun a _ ih e => by
    rcases List.mem_cons.mp e with rfl | e
    · exact ⟨_, List.mem_cons_self, a⟩
    · refine ob7 (ih e) ?_
      intro y h1 h2
      exact ⟨y, List.mem_cons_of_mem _ h1, h2⟩) hu
open PySem.SeqAt in
theorem zim {x : V} {y : Value} {us : List V} {xs : List Value} {b : Bool} (r : Rel C σ s.heap) (hA : A.units + 8 < cLine) (hx : VR s.heap x y) (hX : VRs s.heap us xs) (e : memV σ x us = some b) :
    ∃ t : Value → Bool, (∀ z, z ∈ xs.toArray → EqAt A.in1 s z y (t z)) ∧ xs.toArray.any t = b := by
  classical
  refine ob14 (zin e) ?_
  intro h1 h2
  refine ⟨fun z => decide (∃ u ∈ us, VR s.heap u z ∧ eqv σ fuel u x = some true), fun z hz => ?_, ?_⟩
  · refine ob7 (hX.mem z (by simpa using hz)) ?_
    intro u hu hv
    refine ob12 (h1 u hu) ?_
    intro c hc
    have : decide (∃ u ∈ us, VR s.heap u z ∧ eqv σ fuel u x = some true) = c := by
      cases c with
      | true => exact decide_eq_true ⟨u, hu, hv, hc⟩
      | false =>
        refine decide_eq_false fun ⟨u', _, hv', hc'⟩ => ?_
        exact absurd (zmY r _ hv hv' hc hc') (by decide)
    dsimp only
    rw [this]
    exact (zkp (A := A.in1) fuel r (by rw [Around.in1_units]; simp only [fuel]; lia) hv hx hc).1
  · rw [Bool.eq_iff_iff, h2, Array.any_eq_true']
    constructor
    · intro zz2
      refine ob7 zz2 ?_
      clear zz2
      intro z hz q
      refine ob2 (of_decide_eq_true q) ?_
      intro u hu _ q
      exact ⟨u, hu, q⟩
    · intro zz3
      refine ob7 zz3 ?_
      clear zz3
      intro u hu q
      refine ob7 (hX.mem' u hu) ?_
      intro z hz hv
      exact ⟨z, by simpa using hz, decide_eq_true ⟨u, hu, hv, q⟩⟩
theorem zhy (hl : C.base.NoLimit) : 2 < C.base.objs.size := by
  refine ob7 hl ?_
  clear hl
  intro mc h _
  exact h.lt
theorem KR.ints {prog : Program} {w : World} {h : Heap} {a : Addr} {ks : List V} (x : KR prog w h a ks) (hk : ks.all zg5 = true) : ∃ ns : List Int, ks = ns.map V.int ∧ h.DictOf (intKind prog w) a (ns.map fun n => (n, Value.bool true)) := by
  rcases x with x | ⟨ps, rfl, o, es, ep, h1, h2, h3, h4, h5, h6⟩
  · exact x
  · cases ps with
    | nil =>
      refine ⟨[], rfl, o, es, ep, h1, h2, h3, fun e he => ?_, ?_, .nil⟩
      · have : es.toList = [] := h4
        rw [← Array.mem_toList_iff, this] at he; cases he
      · have : es.toList = [] := h4
        rw [this]; exact .nil
    | cons p r => simp [zg5] at hk
theorem KR.pairs {prog : Program} {w : World} {h : Heap} {a : Addr} {ks : List V} (x : KR prog w h a ks) (hk : ks.all zgg = true) :
    ∃ ps : List ((Int × Int) × Addr), ks = ps.map (fun p => V.tup [.int p.1.1, .int p.1.2]) ∧ h.DictOfH (tupleKind (intKind prog w)) a (ps.map fun p => ([p.1.1, p.1.2], p.2, Value.bool true)) := by
  rcases x with ⟨ns, rfl, o, es, ep, h1, h2, h3, h4, h5, h6⟩ | x
  · cases ns with
    | nil =>
      refine ⟨[], rfl, o, es, ep, h1, h2, h3, ?_, fun x hx => (by cases hx), .nil⟩
      have := h5.length
      simp only [List.map_nil, List.length_nil] at this
      rw [List.eq_nil_of_length_eq_zero this]; rfl
    | cons p r => exact Bool.noConfusion hk
  · exact x
theorem zdM (i : Int) (t : Tok) : Value.isInt i (.int i t) = true := by simp [Value.isInt]
theorem zdY (i : Int) (ns : List Int) : zck (.int i) (ns.map V.int) = ns.contains i := by
  induction ns with
  | nil => rfl
  | cons n r ih =>
    have ih' : (List.map V.int r).any (fun x => zhN x (.int i)) = r.contains i := ih
    rw [zck, List.map_cons, List.any_cons, ih', List.contains_cons]
    show ((n == i) || _) = _
    rw [Bool.beq_comm]
theorem zgD (i : Int) (ns : List Int) : (valueAt (ns.map fun n => (n, Value.bool true)) i).isSome = ns.contains i := by
  induction ns with
  | nil => rfl
  | cons n r ih =>
    unfold valueAt at ih ⊢
    rw [List.map_cons, List.find?_cons, List.contains_cons]
    by_cases e : n = i
    · subst e; simp
    · simp only [e, decide_false, ih]
      have : (i == n) = false := by simp [Ne.symm e]
      rw [this, Bool.false_or]
theorem zdk (i j : Int) (ps : List ((Int × Int) × Addr)) : zck (.tup [.int i, .int j]) (ps.map fun p => V.tup [.int p.1.1, .int p.1.2]) = (ps.map (·.1)).contains (i, j) := by
  induction ps with
  | nil => rfl
  | cons n r ih =>
    have ih' : (List.map (fun p : (Int × Int) × Addr => V.tup [.int p.1.1, .int p.1.2]) r).any (fun x => zhN x (.tup [.int i, .int j])) = (r.map (·.1)).contains (i, j) := ih
    rw [zck, List.map_cons, List.any_cons, ih', List.map_cons, List.contains_cons]
    congr 1
    show (n.1.1 == i && n.1.2 == j) = _
    rw [Bool.eq_iff_iff]
    simp only [Bool.and_eq_true, beq_iff_eq, Prod.ext_iff]
    exact ⟨fun ⟨a, b⟩ => ⟨a.symm, b.symm⟩, fun ⟨a, b⟩ => ⟨a.symm, b.symm⟩⟩
theorem zfc (i j : Int) (ps : List ((Int × Int) × Addr)) : (atKey (ps.map fun p => ([p.1.1, p.1.2], p.2, Value.bool true)) [i, j]).isSome = (ps.map (·.1)).contains (i, j) := by
  induction ps with
  | nil => rfl
  | cons n r ih =>
    unfold atKey at ih ⊢
    rw [List.map_cons, List.find?_cons, List.map_cons, List.contains_cons]
    by_cases e : n.1 = (i, j)
    · have : [n.1.1, n.1.2] = [i, j] := by rw [e]
      simp [e]
    · have h1 : ¬ [n.1.1, n.1.2] = [i, j] := fun q => e (by injection q with q1 q2; injection q2 with q2 _; exact Prod.ext q1 q2)
      have h2 : ((i, j) == n.1) = false := beq_eq_false_iff_ne.mpr (Ne.symm e)
      rw [h2, Bool.false_or, ← ih]
      simp only [h1, decide_false]
theorem zgw {v : V} {p : Int × Int} (h : asP v = some p) : v = .tup [.int p.1, .int p.2] := by
  cases v with
  | tup vs => cases vs with
    | nil => exact zbh h
    | cons a r => cases a with
      | int i => cases r with
        | nil => exact zbh h
        | cons b r => cases b with
          | int j => cases r with
            | nil => cases h; rfl
            | cons _ _ => exact zbh h
          | _ => exact zbh h
      | _ => exact zbh h
  | _ => exact zbh h
theorem zer {v : V} (h : zgg v = true) : ∃ i j, v = .tup [.int i, .int j] := by
  refine ob12 (Option.isSome_iff_exists.mp h) ?_
  intro p hp
  exact ⟨_, _, zgw hp⟩
theorem ze1 {v : V} (h : zg5 v = true) : ∃ i, v = .int i := by
  cases v <;> first | exact Bool.noConfusion h | exact ⟨_, rfl⟩
theorem VR.pair_of {h : Heap} {i j : Int} {x : Value} (v : VR h (.tup [.int i, .int j]) x) : ∃ a n t u, x = .ref a ∧ h.get? a = some (seqObj "tuple" [Value.int i t, Value.int j u].toArray n) := by
  refine ob6 v.tup_of ?_
  intro a xs n ee5
  subst ee5
  intro e r
  cases r with | cons p r => cases r with | cons q r => cases r with | nil =>
  refine ob12 p.int_of ?_
  intro t ee6
  subst ee6
  refine ob12 q.int_of ?_
  intro u ee7
  subst ee7
  exact ⟨a, n, t, u, rfl, e⟩
theorem zjM {prog : Program} {w : World} {h : Heap} {a : Addr} {i j : Int} {t u : Tok} {n : Nat} (e : h.get? a = some (seqObj "tuple" [Value.int i t, Value.int j u].toArray n)) : IsTupleKey (intKind prog w) h [i, j] a :=
  ⟨_, _, n, e, rfl, rfl, .cons (zdM i t) (.cons (zdM j u) .nil)⟩
theorem ze5 {d : Addr} {ks : List V} (r : Rel C σ s.heap) (hl : C.base.NoLimit) (e : σ d = some (.dict ks)) : (d == sysModules) = false := by
  have h2 := zhy hl
  rcases r.new d _ e with q | ⟨vs, q⟩
  · exact beq_eq_false_iff_ne.mpr fun z => by rw [z] at q; simp only [sysModules] at q; lia
  · cases q
theorem zkd {x : V} {y : Value} {d : Addr} {ks : List V} {K : Value → Shared → Prop} (hl : C.base.NoLimit) (hA : A.units + 8 < cLine) (r : Rel C σ s.heap) (e : σ d = some (.dict ks)) (hx : VR s.heap x y) (hk : zcD (x :: ks) = true)
    (h : ∀ t, K (.bool (zck x ks)) { s with toks := t }) : wpAny C.M A (compareOp .In y (.ref d)) K E s := by
  refine ob14 (r.tr d _ e) ?_
  intro hK _
  unfold zcD at hk
  rcases Bool.or_eq_true_iff.mp hk with q | q
  · simp only [List.all_cons, Bool.and_eq_true] at q
    refine lift fun gg back => ?_
    refine ob12 (ze1 q.1) ?_
    intro i ee8
    subst ee8
    refine ob12 hx.int_of ?_
    intro t ee9
    subst ee9
    refine ob7 (hK.ints q.2) ?_
    intro ns ee10
    subst ee10
    intro hd
    refine back ?_
    clear back gg
    refine wpAny_in_of (knd := intKind C.prog C.w) (zdM i t) (ze5 r hl e) hd.mapOf ?_
    rw [zgD, ← zdY]; exact h _
  · simp only [List.all_cons, Bool.and_eq_true] at q
    refine lift fun gg back => ?_
    refine ob18 (zer q.1) ?_
    intro i j ee11
    subst ee11
    refine ob19 hx.pair_of ?_
    intro a n t u ee12
    subst ee12
    intro ha
    refine ob7 (hK.pairs q.2) ?_
    intro ps ee13
    subst ee13
    intro hd
    refine back ?_
    clear back gg
    refine wpAny_in_heap (knd := tupleKind (intKind C.prog C.w)) (tupleKind_room_in1 (by lia)) (zjM ha) (ze5 r hl e) hd ?_
    rw [zfc, ← zdk]; exact h _
theorem zhL {M : Model} {x y : Value} {K : Value → Shared → Prop} (h : wpAny M A (compareOp .In x y) (fun v s' => ∃ c, v = .bool c ∧ K (.bool (!c)) s') E s) : wpAny M A (compareOp .NotIn x y) K E s := by
  have h' : wpAny M A (contains y x) (fun c s' => K (.bool (!c)) s') E s := fun Γ p hΓ => by
    have := h Γ p hΓ
    have e : compareOp .In x y = (contains y x >>= fun b => pure (Value.bool b)) := rfl
    rw [e, Sem.wp_bind'] at this
    refine Sem.wp_mono M Γ _ (fun c p' s' q => ?_) (fun _ _ _ q => q) p s this
    refine ob7 q ?_
    clear q
    intro c' q1 q2
    cases q1; exact q2
  show wpAny M A (do return .bool (!(← contains y x))) K E s
  exact wpAny_bind (wpAny_mono h' (fun c s' q => wpAny_pure q) fun _ _ q => q)
theorem zgq {h : Heap} {u v : V} {x y : Value} {f : Int → Int → Bool} {b : Bool} {W : Value → Value → Prop} (hu : VR h u x) (hv : VR h v y) (e : zh0 u v f = some b) (g : ∀ i j t t', b = f i j → W (.int i t) (.int j t')) : W x y := by
  cases hu <;> first | (cases e; done) | skip
  cases hv <;> first | (cases e; done) | skip
  exact g _ _ _ _ (Option.some.inj e).symm
theorem znA {h : Heap} {u v : V} {x y : Value} {b : Bool} {W : Value → Value → Prop} (hu : VR h u x) (hv : VR h v y) (e : ltP u v = some b) (g : ∀ i j t t', b = decide (i < j) → W (.int i t) (.int j t'))
    (g2 : ∀ (a c : Addr) (p q : Int × Int) (t u t' u' : Tok) (n n2 : Nat), h.get? a = some (seqObj "tuple" #[.int p.1 t, .int p.2 u] n) → h.get? c = some (seqObj "tuple" #[.int q.1 t', .int q.2 u'] n2) → b = (decide (p.1 < q.1) || (p.1 == q.1 && decide (p.2 < q.2))) → W (.ref a) (.ref c)) : W x y := by
  cases hp : asP u with
  | none => rw [ltP, hp] at e; exact zgq hu hv e g
  | some p => cases hq : asP v with
    | none => rw [ltP, hp, hq] at e; exact zgq hu hv e g
    | some q =>
      rw [ltP, hp, hq] at e
      rw [zgw hp] at hu
      rw [zgw hq] at hv
      refine ob19 hu.pair_of ?_
      intro a n t u ee14
      subst ee14
      intro ha
      refine ob19 hv.pair_of ?_
      intro c n2 t' u' ee15
      subst ee15
      intro hb
      exact g2 a c p q t u t' u' n n2 ha hb (Option.some.inj e).symm
theorem zj6 {h : Heap} {u v : V} {x y : Value} {b : Bool} {W : Value → Value → Prop} (hu : VR h u x) (hv : VR h v y) (e : isNo u v = some b) (g : ∀ x, PySem.plainIs x .none = true → b = (x == .none) → W x .none) : W x y := by
  cases v with
  | none =>
    cases hv.none_of
    cases hu <;> exact g _ rfl (Option.some.inj e).symm
  | _ => exact zbh e
theorem zfO {op : CmpOp} {u v : V} {x y : Value} {b : Bool} {K : Value → Shared → Prop} (hl : C.base.NoLimit) (hA : A.units + 16 < cLine) (r : Rel C σ s.heap) (hu : VR s.heap u x) (hv : VR s.heap v y) (e : cmpV σ op u v = some b)
    (h : ∀ t, K (.bool b) { s with toks := t }) : wpAny C.M A (compareOp op x y) K E s := by
  have hin : ∀ {u v : V} {x y : Value} {b : Bool} {K : Value → Shared → Prop}, VR s.heap u x → VR s.heap v y → inV σ u v = some b → (∀ t, K (.bool b) { s with toks := t }) → wpAny C.M A (compareOp .In x y) K E s := by
    intro u v x y b K hu hv e h
    unfold inV at e
    split at e
    · refine ob6 hv.tup_of ?_
      intro a xs n ee16
      subst ee16
      intro ha hX
      refine ob7 (zim (A := A) r (by lia) hu hX e) ?_
      intro t h1 h2
      exact PySem.SeqAt.in_tupleAt t (zcu ha) h1 (by rw [h2]; exact h s.toks)
    · cases hv.ref_of
      split at e
      · rename_i vs hs
        refine ob7 (zdg r hs) ?_
        intro xs hL hX
        refine ob7 (zim (A := A) r (by lia) hu hX e) ?_
        intro t h1 h2
        exact PySem.SeqAt.in_listAt t hL h1 (by rw [h2]; exact h s.toks)
      · rename_i ks hs
        split at e
        · rename_i hk
          cases e
          exact zkd hl (by lia) r hs hu hk h
        · cases e
      · cases e
    · cases e
  have hi : ∀ {op : CmpOp} {f : Int → Int → Bool}, zh0 u v f = some b → (∀ i j t t', b = f i j → wpAny C.M A (compareOp op (.int i t) (.int j t')) K E s) → wpAny C.M A (compareOp op x y) K E s :=
    fun {op} {_} e g => zgq (W := fun x y => wpAny C.M A (compareOp op x y) K E s) hu hv e g
  cases op with
  | Eq => exact (zkp fuel r (Nat.lt_of_le_of_lt (Nat.add_le_add_left (by decide) _) hA) hu hv e).2.1 _ _ _ _ (h s.toks)
  | NotEq =>
    refine ob7 (Option.map_eq_some_iff.mp e) ?_
    intro c hc ee17
    subst ee17
    exact (zkp fuel r (Nat.lt_of_le_of_lt (Nat.add_le_add_left (by decide) _) hA) hu hv hc).2.2 _ _ _ _ (h s.toks)
  | Lt =>
    refine znA (W := fun x y => wpAny C.M A (compareOp .Lt x y) K E s) hu hv e (fun i j t t' e => PyProof.Rows.lt_int (e ▸ h s.toks)) fun a b p q t u t' u' n n2 ha hb e => ?_
    exact zl1 ha hb (by lia) (e ▸ h s.toks)
  | LtE => exact hi e fun i j t t' e => PyProof.Rows.le_int (e ▸ h s.toks)
  | Gt => exact hi e fun i j t t' e => PyProof.Rows.gt_int (e ▸ h s.toks)
  | GtE => exact hi e fun i j t t' e => PyProof.Rows.ge_int (e ▸ h s.toks)
  | Is => exact zj6 (W := fun x y => wpAny C.M A (compareOp .Is x y) K E s) hu hv e fun x hx e => wpAny_is_plain hx (e ▸ h s.toks)
  | IsNot =>
    refine ob7 (Option.map_eq_some_iff.mp e) ?_
    intro c hc ee18
    subst ee18
    exact zj6 (W := fun x y => wpAny C.M A (compareOp .IsNot x y) K E s) hu hv hc fun x hx e => wpAny_isNot_plain hx (e ▸ h s.toks)
  | In => exact hin hu hv e h
  | NotIn =>
    refine ob7 (Option.map_eq_some_iff.mp e) ?_
    intro c hc ee19
    subst ee19
    exact zhL (hin hu hv hc fun t => ⟨c, rfl, h t⟩)
end
end Mine
end
section
namespace Mine
open PySem PySem.W PySem.Calls PyProof.Rows
section
variable {C : Cx} {A : Around} {E : Value → Shared → Prop} {σ : Store} {s : Shared} {Q : V → Store → Prop}
theorem zeJ {u : V} {x : Value} {b : Bool} {K : Bool → Shared → Prop} (hu : VR s.heap u x) (e : Mine.truthy σ u = some b) (h : K b s) : wpAny C.M A (PySem.truthy x) K E s := by
  cases hu with
  | none => cases e; exact PyProof.Rows.truthy_none h
  | bool => cases e; exact wpAny_truthy_bool h
  | int => cases e; exact PyProof.Rows.truthy_int h
  | _ => exact zbh e
noncomputable def tyV : Ty → Option Value
  | .int => some (.type "int") | .bool => some (.type "bool") | .tuple => some (.type "tuple") | .list => some (.type "list") | .str => some (.type "str")
open PySem.IsiPair in
theorem zmF {u : V} {x c : Value} {t : Ty} {b : Bool} {K : Value → Shared → Prop} (r : Rel C σ s.heap) (hu : VR s.heap u x) (ht : tyV t = some c) (e : zio σ u t = some b) (h : ∀ tk, K (.bool b) { s with toks := tk }) :
    wpAny C.M A (call (.builtin "isinstance") [x, c]) K E s := by
  cases t with
  | int => cases hu with
    | int => cases ht; cases e; exact int_int (h s.toks)
    | _ => exact zbh e
  | bool => cases hu with
    | int => cases ht; cases e; exact int_bool (h _)
    | _ => exact zbh e
  | tuple => cases hu with
    | tup ha _ => cases ht; cases e; exact tuple_tuple ha rfl (h s.toks)
    | _ => exact zbh e
  | list => cases hu with
    | ref =>
      refine ob7 (Option.map_eq_some_iff.mp e) ?_
      intro us hs e
      refine ob17 (r.list (zhl hs)) ?_
      intro xs n ha _
      cases ht; subst e; exact list_list ha rfl (h s.toks)
    | _ => exact zbh e
  | str => cases hu with
    | str => cases ht; cases e; exact str_str (h s.toks)
    | _ => exact zbh e
end
end Mine
end
section
set_option linter.unusedVariables false
namespace Mine
open PySem PySem.W PySem.Calls PyProof.Rows
section
variable {C : Cx} {A : Around} {E : Value → Shared → Prop} {σ : Store} {s : Shared} {Q : V → Store → Prop}
theorem zgJ (slice : Expr) (o i : Value) : ∃ ops, subscripted slice false o i = operate ops (getItem o i) := by
  cases slice with
  | Slice _ _ c _ => cases c <;> exact ⟨_, rfl⟩
  | _ => exact ⟨_, rfl⟩
theorem zk9 {i : Int} {n k : Nat} (h : zi4 i n = some k) : k < n ∧ seqIndex? i n = some k ∧ -(n : Int) ≤ i ∧ i < n ∧ (0 ≤ i → k = i.toNat) ∧ (i < 0 → k = (i + n).toNat) := by
  unfold zi4 at h
  unfold seqIndex?
  split at h
  · rename_i h0
    split at h
    · rename_i h1
      cases h
      have : ¬ i < 0 := by lia
      refine ⟨h1, ?_, by lia, by lia, fun _ => rfl, fun z => by lia⟩
      simp only [this, if_false]
      rw [if_pos (by simp only [Bool.and_eq_true, decide_eq_true_eq]; lia)]
    · cases h
  · rename_i h0
    split at h
    · rename_i h1
      cases h
      have : i < 0 := by lia
      refine ⟨by lia, ?_, by lia, by lia, fun _ => by lia, fun _ => rfl⟩
      simp only [this, if_true]
      rw [if_pos (by simp only [Bool.and_eq_true, decide_eq_true_eq]; lia)]
    · cases h
theorem zfD {v : V} {K : List V → Prop} (h : zhJ σ v K) : ∃ vs, K vs ∧ ((v = .tup vs ∧ vs.length ≤ zbb) ∨ ∃ a, v = .ref a ∧ (σ a = some (.list vs) ∨ σ a = some (.fixed vs))) := by
  cases v with
  | tup vs => exact ⟨_, h.2, .inl ⟨rfl, h.1⟩⟩
  | ref a =>
    change (match σ a with | some (.list vs) => K vs | some (.fixed vs) => K vs | _ => False) at h
    cases e : σ a with
    | none => rw [e] at h; exact h.elim
    | some o =>
      rw [e] at h
      cases o with
      | list vs => exact ⟨_, h, .inr ⟨_, rfl, .inl e⟩⟩
      | fixed vs => exact ⟨_, h, .inr ⟨_, rfl, .inr e⟩⟩
      | _ => exact h.elim
  | _ => exact h.elim
theorem Rel.seq {a : Addr} {vs : List V} (r : Rel C σ s.heap) (h : σ a = some (.list vs) ∨ σ a = some (.fixed vs)) : ∃ xs, s.heap.IsList a xs.toArray ∧ VRs s.heap vs xs ∧ vs.length ≤ zbb := by
  rcases h with h | h
  · refine ob1 (r.list h) ?_
    intro xs n h1 h2 h3
    exact ⟨xs, h1.isList, h2, h3⟩
  · exact r.tr a _ h
theorem zj1 {n : Nat} (h : n ≤ zbb) : (n : Int) < 2 ^ 63 := by simp only [zbb] at h; lia
theorem zmE {u v : V} {x y : Value} {value slice : Expr} {K : V → Prop} {Q : Value → Shared → Prop} (r : Rel C σ s.heap) (hu : VR s.heap u x) (hv : VR s.heap v y) (h : idxV u v σ K) (hQ : ∀ z w, K z → VR s.heap z w → Q w s) :
    wpAny C.M A (subscriptTail value slice x y) Q E s := by
  refine ob7 (zfD h) ?_
  intro vs h1 hseq
  clear h
  refine lift fun gg back => ?_
  refine ob7 (zby h1) ?_
  intro i ee20
  subst ee20
  intro h2
  refine ob7 (za6 h2) ?_
  intro k hk h3
  refine ob7 (za6 h3) ?_
  intro z hz h
  refine back ?_
  clear back gg
  clear h1 h2 h3
  refine lift fun gg back => ?_
  refine ob12 hv.int_of ?_
  intro t ee21
  subst ee21
  refine ob12 (zgJ slice x (.int i t)) ?_
  intro ops hops
  refine ob20 (zk9 hk) ?_
  intro hlt hsi hlo hhi hp hn
  refine back ?_
  clear back gg
  rcases hseq with ⟨rfl, hl⟩ | ⟨a, rfl, ha⟩
  · refine ob6 hu.tup_of ?_
    intro a xs n ee22
    subst ee22
    intro ha hX
    have hll := zj1 hl
    have e := hX.length
    refine ob7 (hX.get hz) ?_
    intro w hw hzw
    refine tail_any (T := "tuple") ⟨_, ha, rfl⟩ slot_tuple_getitem.lookup ?_ hops
    exact P.getItem_tuple ha (by lia) (by lia) (by simp only [List.size_toArray]; rw [← e]; exact hsi) (by simpa using hw) (hQ z w h hzw)
  · refine lift fun gg back => ?_
    cases hu.ref_of
    refine ob2 (r.seq ha) ?_
    intro xs hL hX hl
    refine back ?_
    clear back gg
    have hll := zj1 hl
    have e := hX.length
    refine ob7 (hX.get hz) ?_
    intro w hw hzw
    refine tail_any (T := "list") hL.typeIs slot_list_getitem.lookup ?_ hops
    by_cases h0 : 0 ≤ i
    · exact wpAny_getItem_list hL h0 (by lia) (by rw [← hp h0]; simpa using hw) (hQ z w h hzw)
    · refine wpAny_getItem_list_neg hL (by lia) (by simp only [List.size_toArray]; lia) (by lia) ?_ (hQ z w h hzw)
      have := hn (by lia)
      simp only [List.size_toArray]
      rw [← e, ← this]; simpa using hw
theorem znC {u : V} {x : Value} {K : V → Store → Prop} {Q : Value → Shared → Prop} (r : Rel C σ s.heap) (hu : VR s.heap u x) (h : zhJ σ u fun vs => K (.int vs.length) σ) (hQ : ∀ z t w, K z σ → VR s.heap z w → Q w { s with toks := t }) :
    wpAny C.M A (call (.builtin "len") [x]) Q E s := by
  refine ob7 (zfD h) ?_
  intro vs h' hseq
  clear h
  have h := h'
  clear h'
  rcases hseq with ⟨rfl, hl⟩ | ⟨a, rfl, ha⟩
  · refine ob6 hu.tup_of ?_
    intro a xs n ee23
    subst ee23
    intro ha hX
    have hll := zj1 hl
    have e := hX.length
    refine P.len_tuple ha (by simp only [List.size_toArray]; lia) (hQ _ _ _ h ?_)
    rw [List.size_toArray, ← e]; exact .int
  · refine lift fun gg back => ?_
    cases hu.ref_of
    refine ob2 (r.seq ha) ?_
    intro xs hL hX hl
    refine back ?_
    clear back gg
    have hll := zj1 hl
    have e := hX.length
    refine len_list hL (by simp only [List.size_toArray]; lia) (hQ _ _ _ h ?_)
    rw [List.size_toArray, ← e]; exact .int
theorem PostV.len {u : V} {x : Value} (r : Rel C σ s.heap) (hu : VR s.heap u x) (h : zhJ σ u fun vs => Q (.int vs.length) σ) : wpAny C.M A (call (.builtin "len") [x]) (PostV C σ s Q) E s :=
  znC (K := Q) r hu h fun z t w q hv => .tok r q hv
theorem VRs.take {h : Heap} {v : List V} {x : List Value} (n : Nat) (r : VRs h v x) : VRs h (v.take n) (x.take n) :=
  r.ind (P := fun v x => ∀ n, VRs h (v.take n) (x.take n)) (fun n => by rw [List.take_nil, List.take_nil]; exact .nil) (fun a _ ih n => by
    cases n with
    | zero => exact .nil
    | succ n => exact .cons a (ih n)) n
theorem VRs.drop {h : Heap} {v : List V} {x : List Value} (n : Nat) (r : VRs h v x) : VRs h (v.drop n) (x.drop n) :=
  r.ind (P := fun v x => ∀ n, VRs h (v.drop n) (x.drop n)) (fun n => by rw [List.drop_nil, List.drop_nil]; exact .nil) (fun a r ih n => by
    cases n with
    | zero => exact .cons a r
    | succ n => exact ih n) n
theorem VRs.reverse {h : Heap} {v : List V} {x : List Value} (r : VRs h v x) : VRs h v.reverse x.reverse :=
  r.ind (P := fun v x => VRs h v.reverse x.reverse) .nil fun a _ ih => by rw [List.reverse_cons, List.reverse_cons]; exact ih.append (.cons a .nil)
theorem VRs.set {h : Heap} {a : V} {b : Value} (hab : VR h a b) {v : List V} {x : List Value} (n : Nat) (r : VRs h v x) : VRs h (v.set n a) (x.set n b) :=
  r.ind (P := fun v x => ∀ n, VRs h (v.set n a) (x.set n b)) (fun n => .nil) (fun c r ih n => by
    cases n with
    | zero => exact .cons hab r
    | succ n => exact .cons c (ih n)) n
theorem zlA (n : Nat) (o : Option Int) : zc1 n 0 o = kms_lo o n := by
  cases o with
  | none => rfl
  | some i => unfold zc1 kms_lo; dsimp only; split <;> lia
theorem zlB (n : Nat) (o : Option Int) : zc1 n n o = kms_hi o n := by
  cases o with
  | none => rfl
  | some i => unfold zc1 kms_hi; dsimp only; split <;> lia
theorem zfB {α : Type} (lo hi : Option Int) (l : List α) : zeQ lo hi l = (l.drop (kms_lo lo l.length)).take (kms_hi hi l.length - kms_lo lo l.length) := by
  unfold zeQ
  rw [zlA, zlB, List.drop_take]
theorem zeS {v : V} {x : Value} {o : Option Int} (hv : VR s.heap v x) (e : zgV v = some o) : IsPart x o := by
  cases hv with
  | none => cases e; exact .none
  | int => cases e; exact .int _ _
  | _ => exact zbh e
theorem zk2 {u l h : V} {x xl xh : Value} {value : Expr} {lower upper : Option Expr} {p : Pos} (r : Rel C σ s.heap) (hu : VR s.heap u x) (hl : VR s.heap l xl) (hh : VR s.heap h xh) (q : zgS u l h σ Q) :
    wpAny C.M A (subscriptTail value (.Slice lower upper none p) x (.ref s.heap.objs.size)) (PostV C σ s Q) E { s with heap := s.heap.push { cls := .type "slice", data := .fields #[xl, xh, .none] } } := by
  refine lift fun gg back => ?_
  refine ob1 (zbq q) ?_
  intro a vs ee24
  subst ee24
  intro ha q
  refine ob7 (za6 q) ?_
  intro lo hlo q
  refine ob7 (za6 q) ?_
  intro hi hhi q
  cases hu.ref_of
  refine ob1 (r.list ha) ?_
  intro xs n hL hX hz
  refine back ?_
  clear back gg
  have e := hX.length
  refine ob12 (zgJ (.Slice lower upper none p) (.ref a) (.ref s.heap.objs.size)) ?_
  intro ops hops
  have hL' : (s.heap.push { cls := .type "slice", data := .fields #[xl, xh, .none] }).IsList a xs.toArray := hL.isList.push _
  refine tail_any (T := "list") hL'.typeIs slot_list_getitem.lookup ?_ hops
  refine wpAny_getItem_list_slice hL' (Heap.IsSliceOf.new ..) (zeS hl hlo) (zeS hh hhi) .none (by simp) ?_ (by simp only [List.size_toArray]; exact zd4 (by lia))
  dsimp only
  rw [kms_pick_eq]
  refine zdL (s := s) (xs := kms_pick xs lo hi) (n := 0) (t := s.toks) r q (fun b ob k => zbd _ _ (zbd _ _ k)) (Nat.le_trans zbn zbn) zbn (Heap.get?_push_size _ rfl) ?_ ?_
  · rw [zfB, kms_pick, e]
    exact (hX.drop _).take _
  · rw [zfB]; simp only [List.length_take, List.length_drop]; lia
theorem zj0 {u : V} {x : Value} (r : Rel C σ s.heap) (hu : VR s.heap u x) (q : zbw σ u fun _ vs => vs.length ≤ zbb ∧ Mine.alloc σ (.list vs) Q) : wpAny C.M A (call (.type "list") [x]) (PostV C σ s Q) E s := by
  refine lift fun gg back => ?_
  refine ob15 (zbq q) ?_
  intro a vs ee25
  subst ee25
  intro ha hz q
  cases hu.ref_of
  refine ob1 (r.list ha) ?_
  intro xs n hL hX _
  refine back ?_
  clear back gg
  have e := hX.length
  refine zb4 (call_list_seq a (.inl rfl) hL rfl rfl (fun h' c' k hn hsz => ?_) (by simp only [List.size_toArray]; exact zd4 (by lia)))
  exact zdL (t := s.toks) r q k hsz (Nat.le_refl _) hn hX hz
theorem zgF {a : Addr} {vs ws : List V} {xs : List Value} {n : Nat} {f : Array Value → Array Value} {v : V} {x : Value} (r : Rel C σ s.heap) (ha : σ a = some (.list vs)) (hL : IsL s.heap a xs.toArray n)
    (hW : VRs s.heap ws (f xs.toArray).toList) (hz : ws.length ≤ zbb) (q : Q v (σ.upd a (.list ws))) (hv : VR s.heap v x) : PostV C σ s Q x { s with heap := s.heap.update a (Obj.mapSeq f) } := by
  have st : Step C No σ s (σ.upd a (.list ws)) { s with heap := s.heap.update a (Obj.mapSeq f), toks := s.toks } := by
    refine .turn r ha (fun _ e => by cases e) ⟨Heap.size_update .., fun b hb => Heap.get?_update_other _ _ (Ne.symm hb)⟩ fun k => ⟨(f xs.toArray).toList, if (f xs.toArray).size == xs.toArray.size then n else n + 1, ?_, hW.keep k, hz⟩
    have := hL.update f
    rw [show (f xs.toArray).toList.toArray = f xs.toArray from by simp]
    exact this
  exact ⟨v, _, q, st.vr hv, st⟩
noncomputable def m1Id : M1 → String
  | .append => "list.append"
theorem zn7 {m : M1} {u v : V} {x y : Value} {id : String} {pos : Pos} {sx : Sem Value} {Q' : Value → Shared → Prop} (hid : id = m1Id m)
    (h : wpAny C.M A sx (fun y s₁ => ∃ σ₁ v Q, Rel C σ₁ s₁.heap ∧ VR s₁.heap u x ∧ VR s₁.heap v y ∧ m1V m u v σ₁ Q ∧ ∀ z s₂, PostV C σ₁ s₁ Q z s₂ → Q' z s₂) E s) (hx : ∃ a, x = .ref a) :
    wpAny C.M A (callWith pos (.builtin id) [x] [(false, sx)] []) Q' E s := by
  refine ob12 hx ?_
  clear hx
  intro a ee26
  subst ee26
  cases m with
  | append =>
    subst hid
    refine P.append_list (wpAny_mono h (fun y s₁ h₁ => ?_) fun _ _ e => e)
    refine lift fun gg back => ?_
    refine ob21 h₁ ?_
    clear h₁
    intro σ₁ v Q r hu hv q k
    refine ob15 (zbq q) ?_
    intro a' vs ee27
    subst ee27
    intro ha hz q
    cases hu.ref_of
    refine ob1 (r.list ha) ?_
    intro xs n hL hX _
    refine back ?_
    clear back gg
    have e := hX.length
    refine ⟨_, n, by simp only [List.size_toArray]; exact zd4 (by lia), hL, k _ _ (zgF r ha hL ?_ (by simp only [List.length_append, List.length_cons, List.length_nil]; lia) q .none)⟩
    simpa using hX.append (.cons hv .nil)
theorem ziZ {a : Addr} {vs : List V} {j : Int} {t : Tok} {x : V} {z : Value} {K : Store → Prop} (r : Rel C σ s.heap) (ha : σ a = some (.list vs)) (h0 : 0 ≤ j) (h1 : j < vs.length) (hx : VR s.heap x z) (q : K (σ.upd a (.list (vs.set j.toNat x)))) :
    wpAny C.M A (setItem (.ref a) (.int j t) z) (fun _ s' => ∃ σ', K σ' ∧ Step C No σ s σ' s') E s := by
  refine ob1 (r.list ha) ?_
  intro xs n hL hX hz
  have e := hX.length
  have hll := zj1 hz
  have hl := hL.isList
  have fin : ∃ σ', K σ' ∧ Step C No σ s σ' { s with heap := s.heap.update a (Obj.mapSeq (·.setIfInBounds j.toNat z)) } := by
    refine ob1 (zgF (Q := fun _ σ' => K σ') (f := (·.setIfInBounds j.toNat z)) (ws := vs.set j.toNat x) (v := .none) r ha hL (by simpa using hX.set hx j.toNat) (by simpa using hz) q .none) ?_
    intro _ σ' q' _ st
    exact ⟨σ', q', st⟩
  unfold setItem
  try with_reducible refine wpAny_holding ?_
  first | refine wpAny_bind (wpAny_pure ?_) | skip
  refine wpAny_bind (wpAny_sequenceKey hl.typeIs (by decide) ?_)
  refine wpAny_bind (wpAny_callSpecial?_slot (name := Str.ofString "__setitem__") hl.typeIs slot_list_setitem
    (wpAny_call_entry slot_list_setitem hl.typeIs entry_list_setitem ?_ (args_list_setitem _ _ _)))
  show wpAny _ _ (Builtin.List.listSubscript? (.int j t) >>= _) _ _ s
  refine wpAny_bind (wpAny_listSubscript_int (fitsIndex_of h0 (by lia)) ?_)
  refine ob12 (Int.eq_ofNat_of_zero_le h0) ?_
  intro i ee28
  subst ee28
  have hi : i < xs.toArray.size := by simp only [List.size_toArray]; lia
  show wpAny _ _ ((seqItemAt a i >>= fun r => pure (r.map (i, ·))) >>= _) _ _ s
  refine wpAny_bind (wpAny_bind (wpAny_seqItemAt hL rfl (wpAny_pure ?_)))
  rw [Array.getElem?_eq_getElem hi]
  show wpAny _ _ (setSeqItemAt a i z >>= _) _ _ s
  refine wpAny_bind (wpAny_setSeqItemAt hL rfl ?_)
  first
    | exact wpAny_bind (wpAny_pure (wpAny_pure ⟨.none, rfl, wpAny_pure fin⟩))
    | exact wpAny_pure ⟨.none, rfl, wpAny_pure fin⟩
theorem zhH (i : Int) (ns : List Int) : ∃ ns' : List Int, zci (.int i) (ns.map V.int) = ns'.map V.int ∧ stored (ns.map fun n => (n, Value.bool true)) i (.bool true) = ns'.map fun n => (n, Value.bool true) := by
  by_cases h : i ∈ ns
  · refine ⟨ns, ?_, ?_⟩
    · unfold zci; rw [zdY, if_pos (by simpa using h)]
    · unfold stored
      rw [if_pos (by simpa using h), List.map_map]
      refine List.map_congr_left fun n _ => ?_
      by_cases e : n = i
      · subst e; simp
      · simp [e]
  · refine ⟨ns ++ [i], ?_, ?_⟩
    · unfold zci; rw [zdY, if_neg (by simpa using h)]; simp
    · unfold stored
      rw [if_neg (by simpa using h)]; simp
theorem zgU (i j : Int) (b : Addr) (ps : List ((Int × Int) × Addr)) : ∃ ps' : List ((Int × Int) × Addr), zci (.tup [.int i, .int j]) (ps.map fun p => V.tup [.int p.1.1, .int p.1.2]) = ps'.map (fun p => V.tup [.int p.1.1, .int p.1.2]) ∧
    storedH (ps.map fun p => ([p.1.1, p.1.2], p.2, Value.bool true)) [i, j] b (.bool true) = ps'.map fun p => ([p.1.1, p.1.2], p.2, Value.bool true) := by
  have hh := zfc i j ps
  by_cases h : (i, j) ∈ ps.map (·.1)
  · have hc : (ps.map (·.1)).contains (i, j) = true := by simpa using h
    refine ⟨ps, ?_, ?_⟩
    · unfold zci; rw [zdk, if_pos hc]
    · unfold storedH
      rw [hh, if_pos hc, List.map_map]
      refine List.map_congr_left fun n _ => ?_
      simp only [Function.comp, putAt]
      split <;> rfl
  · have hc : ¬ (ps.map (·.1)).contains (i, j) = true := by simpa using h
    refine ⟨ps ++ [((i, j), b)], ?_, ?_⟩
    · unfold zci; rw [zdk, if_neg hc]; simp
    · unfold storedH
      rw [hh, if_neg hc]; simp
theorem zga (k : V) (ks : List V) : (zci k ks).length ≤ ks.length + 1 := by
  unfold zci; split <;> simp
theorem zi1 {a : Addr} {ks : List V} {i : V} {y : Value} {K : Store → Prop} (hA : A.units + 8 < cLine) (r : Rel C σ s.heap) (ha : σ a = some (.dict ks)) (hi : VR s.heap i y) (hk : zcD (i :: ks) = true) (hz : ks.length < zbb)
    (q : K (σ.upd a (.dict (zci i ks)))) : wpAny C.M A (setItem (.ref a) y (.bool true)) (fun _ s' => ∃ σ', K σ' ∧ Step C No σ s σ' s') E s := by
  refine ob14 (r.tr a _ ha) ?_
  intro hK _
  have hz' := zga i ks
  unfold zcD at hk
  rcases Bool.or_eq_true_iff.mp hk with e | e
  · simp only [List.all_cons, Bool.and_eq_true] at e
    refine lift fun gg back => ?_
    refine ob12 (ze1 e.1) ?_
    intro i ee29
    subst ee29
    refine ob12 hi.int_of ?_
    intro t ee30
    subst ee30
    refine ob7 (hK.ints e.2) ?_
    intro ns ee31
    subst ee31
    intro hd
    refine ob7 (zhH i ns) ?_
    intro ns' e1 e2
    refine back ?_
    clear back gg
    refine wpAny_setItem_pairs (knd := intKind C.prog C.w) (zdM i t) hd (fun h' hd' hs => ⟨_, q, .turn r ha (fun _ e => by cases e) hs fun k => ⟨.inl ⟨ns', e1, e2 ▸ hd'⟩, by lia⟩⟩) (by simp at hz ⊢; exact zd4 (by lia))
  · simp only [List.all_cons, Bool.and_eq_true] at e
    refine lift fun gg back => ?_
    refine ob18 (zer e.1) ?_
    intro i j ee32
    subst ee32
    refine ob19 hi.pair_of ?_
    intro b n t u ee33
    subst ee33
    intro hb
    refine ob7 (hK.pairs e.2) ?_
    intro ps ee34
    subst ee34
    intro hd
    refine ob7 (zgU i j b ps) ?_
    intro ps' e1 e2
    refine back ?_
    clear back gg
    refine wpAny_setItem_heap (knd := tupleKind (intKind C.prog C.w)) (tupleKind_room_in1 (by lia)) (zjM hb) hd (fun h' hd' hs => ⟨_, q, .turn r ha (fun _ e => by cases e) hs fun k => ⟨.inr ⟨ps', e1, e2 ▸ hd'⟩, by lia⟩⟩) (by simp at hz ⊢; exact zd4 (by lia))
theorem zi0 {u i x : V} {xu xi xx : Value} {K : Store → Prop} (hA : A.units + 8 < cLine) (r : Rel C σ s.heap) (hu : VR s.heap u xu) (hi : VR s.heap i xi) (hx : VR s.heap x xx) (q : zbJ u i x σ K) :
    wpAny C.M A (setItem xu xi xx) (fun _ s' => ∃ σ', K σ' ∧ Step C No σ s σ' s') E s := by
  unfold zbJ at q
  split at q
  · cases hu.ref_of
    split at q
    · rename_i vs ha
      refine ob22 (zby q) ?_
      intro j ee35
      subst ee35
      intro h0 h1 q
      refine ob12 hi.int_of ?_
      intro t ee36
      subst ee36
      exact ziZ r ha h0 h1 hx q
    · rename_i ks ha
      refine lift fun gg back => ?_
      refine ob23 q ?_
      clear q
      intro h1 h2 ee37
      subst ee37
      intro q
      cases hx.bool_of
      refine back ?_
      clear back gg
      exact zi1 hA r ha hi h1 h2 q
    · exact q.elim
  · exact q.elim
theorem zhi : ∀ {vs : List V} {bs : List Bool}, bools? vs = some bs → vs = bs.map V.bool
  | [], bs, e => by cases e; rfl
  | .bool b :: r, bs, e => by
    replace e := Option.map_eq_some_iff.mp e
    refine ob7 e ?_
    clear e
    intro bs' e1 ee38
    subst ee38
    rw [zhi e1]; rfl
  | .none :: _, _, e | .int _ :: _, _, e | .str _ :: _, _, e | .tup _ :: _, _, e | .ref _ :: _, _, e => zbh e
theorem zeF : ∀ {vs : List V} {ns : List Int}, ints? vs = some ns → vs = ns.map V.int
  | [], bs, e => by cases e; rfl
  | .int b :: r, bs, e => by
    replace e := Option.map_eq_some_iff.mp e
    refine ob7 e ?_
    clear e
    intro bs' e1 ee39
    subst ee39
    rw [zeF e1]; rfl
  | .none :: _, _, e | .bool _ :: _, _, e | .str _ :: _, _, e | .tup _ :: _, _, e | .ref _ :: _, _, e => zbh e
theorem zgh {h : Heap} : ∀ {ns : List Int} {xs : List Value}, VRs h (ns.map V.int) xs → IntsAre xs ns
  | [], _, r => by cases r; exact .nil
  | n :: ns, _, r => by
    cases r with | cons a r =>
    refine ob12 a.int_of ?_
    intro t ee40
    subst ee40
    exact .cons _ _ (zgh r)
theorem zj9 {h : Heap} {xs : List Value} {ns : List Int} (r : IntsAre xs ns) : VRs h (ns.map V.int) xs := by
  induction r with
  | nil => exact .nil
  | cons _ _ _ ih => exact .cons .int ih
theorem zfR {h : Heap} : ∀ {bs : List Bool} {xs : List Value}, VRs h (bs.map V.bool) xs → xs = bs.map Value.bool
  | [], _, r => by cases r; rfl
  | b :: bs, _, r => by
    cases r with | cons a r =>
    rw [a.bool_of, zfR r]; rfl
theorem bools_truth {bs : List Bool} : TruthOf C.prog C.w A (fun i v => (bs.map Value.bool).toArray[i]? = some v) (fun i => bs.getD i false) := by
  intro i v s Q E hP hQ
  simp only [List.getElem?_toArray, List.getElem?_map, Option.map_eq_some_iff] at hP
  refine ob7 hP ?_
  clear hP
  intro b hb ee41
  subst ee41
  refine wpAny_truthy_bool ?_
  simpa [List.getD, hb] using hQ
theorem zjK (bs : List Bool) : (List.range bs.length).any (fun i => bs.getD i false) = bs.any id := by
  rw [Bool.eq_iff_iff]
  simp only [List.any_eq_true, List.mem_range, id]
  constructor
  · intro zz4
    refine ob7 zz4 ?_
    clear zz4
    intro i hi h
    exact ⟨bs[i], List.getElem_mem hi, by simpa [hi] using h⟩
  · intro zz5
    refine lift fun gg back => ?_
    refine ob7 zz5 ?_
    clear zz5
    intro b hb h
    obtain ⟨i, hi, rfl⟩ := List.mem_iff_getElem.mp hb
    refine back ?_
    clear back gg
    exact ⟨i, hi, by simpa [hi] using h⟩
theorem znW {u : V} {x : Value} (hh : A.handled = none) (r : Rel C σ s.heap) (hu : VR s.heap u x) (q : zbw σ u fun _ vs => za9 (bools? vs) fun bs => Q (.bool (bs.any id)) σ) : wpAny C.M A (call (.builtin "any") [x]) (PostV C σ s Q) E s := by
  refine lift fun gg back => ?_
  refine ob1 (zbq q) ?_
  intro a vs ee42
  subst ee42
  intro ha q
  refine ob7 (za6 q) ?_
  intro bs hb q
  cases hu.ref_of
  refine ob1 (r.list ha) ?_
  intro xs n hL hX _
  refine back ?_
  clear back gg
  rw [zhi hb] at hX
  cases zfR hX
  refine zb4 (call_any_walk (wpAny_pyIter_list hL.isList ⟨_, _, _, _, _, _, fun i => bs.getD i false, rfl, Walks.list (A := A.in1) hh _ a (Nat.ne_of_lt (Heap.lt_size hL)) _,
    ⟨⟨_, Heap.get?_push_size _ rfl, rfl, rfl⟩, hL.isList.push _⟩, bools_truth, fun h' tk k hsz => ?_⟩))
  have k' : ∀ b ob, s.heap.get? b = some ob → h'.get? b = some ob := fun b ob e => k b ob (by simp only [List.mem_singleton]; exact Nat.ne_of_lt (Heap.lt_size e)) (zbd _ _ e)
  refine ⟨_, σ, q, ?_, .grow r k' hsz⟩
  rw [show (bs.map Value.bool).toArray.size = bs.length by simp, zjK]; exact .bool
theorem zny {u : V} {x : Value} (hh : A.handled = none) (r : Rel C σ s.heap) (hu : VR s.heap u x) (q : zbw σ u fun _ vs => za9 (ints? vs) fun ns => ∃ m, (m ∈ ns ∧ ∀ x ∈ ns, x ≤ m) ∧ Q (.int m) σ) : wpAny C.M A (call (.builtin "max") [x]) (PostV C σ s Q) E s := by
  refine lift fun gg back => ?_
  refine ob1 (zbq q) ?_
  intro a vs ee43
  subst ee43
  intro ha q
  refine ob7 (za6 q) ?_
  intro ns hb q
  refine ob24 q ?_
  clear q
  intro m h1 h2 q
  cases hu.ref_of
  refine ob1 (r.list ha) ?_
  intro xs n hL hX _
  refine back ?_
  clear back gg
  rw [zeF hb] at hX
  have hI := zgh hX
  refine ob12 hI.allInts.items ?_
  intro ys e
  have hns : ns = ys.toList.map (·.1) := by rw [← hI.numsOf, ← nums_intItems, ← e]
  have hsz : ns.length = ys.size := by rw [hns, List.length_map, Array.length_toList]
  have hpos := List.length_pos_of_mem h1
  refine zb4 (max_intList hh (e ▸ hL.isList) (by lia) fun v h' tk hv hk hg => ?_)
  refine ob12 (intItems_at hv) ?_
  intro t ee44
  subst ee44
  refine ob14 (argBest_gt (numAt ys) (ys.size - 1)) ?_
  intro g1 g2
  have at_ : ∀ j, j < ns.length → numAt ys j ∈ ns := fun j hj => by
    rw [numAt_eq, ← hns, List.getD_eq_getElem?_getD, List.getElem?_eq_getElem hj]; exact List.getElem_mem hj
  refine lift fun gg back => ?_
  obtain ⟨j, hj, ej⟩ := List.mem_iff_getElem.mp h1
  refine back ?_
  clear back gg
  have := g2 j (by lia)
  rw [numAt_eq, ← hns, List.getD_eq_getElem?_getD, List.getElem?_eq_getElem hj, Option.getD_some, ej] at this
  have eq := Int.le_antisymm (h2 _ (at_ _ (by lia))) this
  rw [eq]
  exact ⟨_, σ, q, .int, .grow r hk hg⟩
theorem zf7 {l l' : List Int} (p : l.Perm l') (h : l.Pairwise (· ≤ ·)) (h' : l'.Pairwise (· ≤ ·)) : l = l' := p.eq_of_pairwise (fun a b _ _ h1 h2 => Int.le_antisymm h1 h2) h h'
theorem zgX {ns ns' : List Int} (hp : ns'.Perm ns) (hs : ns'.Pairwise (· ≤ ·)) : ns.mergeSort (fun a b => decide (a ≤ b)) = ns' := by
  refine zf7 ((List.mergeSort_perm ns _).trans hp.symm) ?_ hs
  have := List.pairwise_mergeSort (le := fun a b : Int => decide (a ≤ b)) (by intro a b c h1 h2; simp only [decide_eq_true_eq] at *; lia) (by intro a b; simp only [Bool.or_eq_true, decide_eq_true_eq]; lia) ns
  exact this.imp (fun {a b} h => by simpa using h)
theorem ziY {a : Addr} {vs : List V} {ns : List Int} (r : Rel C σ s.heap) (ha : σ a = some (.list vs)) (hn : ints? vs = some ns) (h64 : vs.length < 64) (q : Mine.alloc σ (.list ((ns.mergeSort (fun a b => decide (a ≤ b))).map V.int)) Q) :
    wpAny C.M A (call (.builtin "sorted") [.ref a]) (PostV C σ s Q) E s := by
  refine ob1 (r.list ha) ?_
  intro xs n hL hX _
  have e := hX.length
  rw [zeF hn] at hX
  have hI := zgh hX
  refine sorted_ints hL.isList hI (by lia) fun out ns' hI' hp hs => ?_
  rw [zgX hp hs] at q
  refine ob12 (sortedAll_at s.heap xs out) ?_
  intro c hc
  refine zdL (s := s) (h' := sortedAll s.heap xs out) (xs := out.toList) (n := c) (t := s.toks) r q (fun b ob hb => sortedAll_old hb) ?_ (Nat.le_succ _) (by simpa using hc) (zj9 hI') ?_
  · unfold sortedAll sortedHeap
    simp only [Heap.size_update, Heap.size_push]; lia
  · have := hp.length_eq
    have e2 : vs.length = ns.length := by rw [zeF hn]; simp
    simp only [List.length_map, zbb]; lia
end
end Mine
end
section
set_option linter.unusedVariables false
namespace Mine
open PySem PySem.W PyProof.Rows
noncomputable def KGo {α : Type} (lt : Nat → Nat → Bool) (N : Nat) : KasT α → α → Prop
  | .ret a, b => a = b
  | .ask i j k, b => (i < N ∧ j < N) ∧ KGo lt N (k (lt i j)) b
theorem KGo.bind {α β : Type} {lt : Nat → Nat → Bool} {N : Nat} {f : α → KasT β} {a : α} {b : β} : ∀ {t : KasT α}, KGo lt N t a → KGo lt N (f a) b → KGo lt N (t.bind f) b
  | .ret _, h, g => by cases h; exact g
  | .ask i j k, h, g => ⟨h.1, KGo.bind (t := k (lt i j)) h.2 g⟩
theorem KGo.wp {α : Type} {lt : Nat → Nat → Bool} {N : Nat} {a : α} {s : Shared} {cmp : Nat → Nat → (Bool → Shared → Prop) → Shared → Prop} {Q : α → Shared → Prop}
    (hc : ∀ i j C, i < N → j < N → C (lt i j) s → cmp i j C s) (q : Q a s) : ∀ {t : KasT α}, KGo lt N t a → t.kasWp cmp Q s
  | .ret _, h => by cases h; exact q
  | .ask i j k, h => hc i j _ h.1.1 h.1.2 (KGo.wp hc q (t := k (lt i j)) h.2)
section
variable {lt : Nat → Nat → Bool} {N : Nat}
structure LtOk (lt : Nat → Nat → Bool) (N : Nat) : Prop where
  irr : ∀ i, lt i i = false
  tr : ∀ i j k, lt i j = true → lt j k = true → lt i k = true
  tot : ∀ i j, i < N → j < N → i ≠ j → lt i j = false → lt j i = true
structure PermN (N : Nat) (p : Array Nat) : Prop where
  size : p.size = N
  lt : ∀ i, i < N → p.getD i 0 < N
  inj : ∀ i j, i < j → j < N → p.getD i 0 ≠ p.getD j 0
theorem PermN.of {p : Array Nat} (h : p.toList.Perm (List.range N)) : PermN N p := by
  have hl : p.size = N := by have := h.length_eq; simpa using this
  have hn : p.toList.Nodup := h.symm.nodup List.nodup_range
  have hg : ∀ i (hi : i < N), p.getD i 0 = p.toList[i]'(by simpa [hl] using hi) := by
    intro i hi
    simp [Array.getD, hl, hi]
  refine ⟨hl, fun i hi => ?_, fun i j hij hj e => ?_⟩
  · rw [hg i hi]
    exact List.mem_range.mp (h.subset (List.getElem_mem _))
  · rw [hg i (by lia), hg j hj] at e
    exact List.pairwise_iff_getElem.mp hn i j (by simp [hl]; lia) (by simp [hl]; lia) hij e
noncomputable def UpTo (lt : Nat → Nat → Bool) (p : Array Nat) (k : Nat) : Prop := ∀ i j, i < j → j < k → lt (p.getD i 0) (p.getD j 0) = true
theorem zjw (O : LtOk lt N) {p : Array Nat} {k : Nat} (h : ∀ i, 1 ≤ i → i < k → lt (p.getD (i - 1) 0) (p.getD i 0) = true) : UpTo lt p k := by
  intro i j hij
  induction j with
  | zero => lia
  | succ j ih =>
    intro hj
    have h1 := h (j + 1) (by lia) hj
    rw [Nat.add_sub_cancel] at h1
    by_cases e : i = j
    · subst e; exact h1
    · exact O.tr _ _ _ (ih (by lia) (by lia)) h1
theorem zkC (O : LtOk lt N) {p : Array Nat} (P : PermN N p) : ∀ (f n : Nat), 1 ≤ n → n + f ≤ N →
    ∃ m, KGo lt N (kas_asc p f n) m ∧ (n ≤ m ∧ m ≤ n + f) ∧ (∀ i, n ≤ i → i < m → lt (p.getD (i - 1) 0) (p.getD i 0) = true) ∧ (m < n + f → lt (p.getD m 0) (p.getD (m - 1) 0) = true)
  | 0, n, _, _ => ⟨n, rfl, by lia, fun i _ _ => by lia, fun _ => by lia⟩
  | f + 1, n, h1, h2 => by
    have r1 := P.lt n (by lia)
    have r2 := P.lt (n - 1) (by lia)
    cases hc : lt (p.getD n 0) (p.getD (n - 1) 0) with
    | true => exact ⟨n, ⟨⟨r1, r2⟩, by rw [hc]; rfl⟩, by lia, fun i _ _ => by lia, fun _ => hc⟩
    | false =>
      refine ob4 (zkC O P f (n + 1) (by lia) (by lia)) ?_
      intro m a b c d
      refine ⟨m, ⟨⟨r1, r2⟩, by rw [hc]; exact a⟩, by lia, fun i hi hm => ?_, fun hm => d (by lia)⟩
      by_cases e : i = n
      · subst e
        exact O.tot _ _ r1 r2 (P.inj _ _ (by lia) (by lia)).symm hc
      · exact c i (by lia) hm
theorem zkq (O : LtOk lt N) {p : Array Nat} (P : PermN N p) : ∀ (f n : Nat), 1 ≤ n → n + f ≤ N →
    ∃ m, KGo lt N (kas_desc f p n 0) (p, m, 0) ∧ (n ≤ m ∧ m ≤ n + f) ∧ (∀ i, n ≤ i → i < m → lt (p.getD i 0) (p.getD (i - 1) 0) = true)
  | 0, n, _, _ => ⟨n, rfl, by lia, fun i _ _ => by lia⟩
  | f + 1, n, h1, h2 => by
    have r1 := P.lt n (by lia)
    have r2 := P.lt (n - 1) (by lia)
    cases hc : lt (p.getD n 0) (p.getD (n - 1) 0) with
    | false =>
      have hd := O.tot _ _ r1 r2 (P.inj _ _ (by lia) (by lia)).symm hc
      refine ⟨n, ⟨⟨r1, r2⟩, ?_⟩, by lia, fun i _ _ => by lia⟩
      rw [hc]
      refine ⟨⟨r2, r1⟩, ?_⟩
      rw [hd]; rfl
    | true =>
      refine ob2 (zkq O P f (n + 1) (by lia) (by lia)) ?_
      intro m a b c
      refine ⟨m, ⟨⟨r1, r2⟩, by rw [hc]; exact a⟩, by lia, fun i hi hm => ?_⟩
      by_cases e : i = n
      · subst e; exact hc
      · exact c i (by lia) hm
theorem ze2 {p q : Array Nat} {i j : Nat} (h : p[i]? = q[j]?) : p.getD i 0 = q.getD j 0 := by
  rw [Array.getD_eq_getD_getElem?, Array.getD_eq_getD_getElem?, h]
theorem zlz (O : LtOk lt N) {p : Array Nat} (hp : p.toList.Perm (List.range N)) (h2 : 2 ≤ N) :
    ∃ m q, KGo lt N (kas_count N p) (m, q) ∧ q.toList.Perm (List.range N) ∧ (1 ≤ m ∧ m ≤ N) ∧ UpTo lt q m := by
  have P := PermN.of hp
  refine ob4 (zkC O P (N - 1) 1 (by lia) (by lia)) ?_
  intro n a b c d
  have up : UpTo lt p n := zjw O fun i h1 h2 => c i h1 h2
  by_cases e : n = N
  · refine ⟨n, p, KGo.bind a ?_, hp, by lia, up⟩
    rw [if_pos (by simp [e])]; rfl
  · have e' : ¬ ((n == N) = true) := by simp [e]
    by_cases e1 : n > 1
    · refine ⟨n, p, KGo.bind a ?_, hp, by lia, up⟩
      rw [if_neg e', if_pos e1]
      refine ⟨⟨P.lt _ (by lia), P.lt _ (by lia)⟩, ?_⟩
      rw [up 0 (n - 1) (by lia) (by lia)]; rfl
    · have en : n = 1 := by lia
      subst en
      refine ob2 (zkq O P (N - 2) 2 (by lia) (by lia)) ?_
      intro m a' b' c'
      have hq : (kas_rev p 0 m).toList.Perm (List.range N) := (Array.perm_iff_toList_perm.mp (mirror_perm p 0 m _)).trans hp
      have Pq := PermN.of hq
      have hm : ∀ k, (kas_rev p 0 m).getD k 0 = if k < m then p.getD (m - 1 - k) 0 else p.getD k 0 := by
        intro k
        have := getElem?_mirror_all (xs := p) (i := 0) (j := m) (by rw [P.size]; lia) k
        simp only [Nat.zero_le, true_and, Nat.zero_add] at this
        by_cases hk : k < m
        · rw [if_pos hk] at this ⊢; exact ze2 this
        · rw [if_neg hk] at this ⊢; exact ze2 this
      refine ob4 (zkC O Pq (N - m) m (by lia) (by lia)) ?_
      intro m' a2 b2 c2 _
      refine ⟨m', kas_rev p 0 m, KGo.bind a ?_, hq, by lia, zjw O fun i h1 h2 => ?_⟩
      · rw [if_neg e', if_neg e1]
        refine KGo.bind a' ?_
        dsimp only
        rw [if_neg (by lia)]
        exact KGo.bind a2 rfl
      · by_cases hi : i < m
        · rw [hm, hm, if_pos (by lia), if_pos hi]
          have e3 : m - 1 - (i - 1) = m - i := by lia
          have e4 : m - 1 - i = m - i - 1 := by lia
          rw [e3, e4]
          by_cases e5 : m - i = 1
          · rw [e5]; exact d (by lia)
          · exact c' (m - i) (by lia) (by lia)
        · exact c2 i (by lia) h2
theorem zgc (O : LtOk lt N) {p : Array Nat} (P : PermN N p) {k : Nat} (hk : k < N) : ∀ (f l r : Nat), r - l ≤ f → l ≤ r → r ≤ k → (∀ i, i < l → lt (p.getD i 0) (p.getD k 0) = true) → (∀ i, r ≤ i → i < k → lt (p.getD k 0) (p.getD i 0) = true) →
    UpTo lt p k → ∃ m, KGo lt N (kas_place p k f l r) m ∧ m ≤ k ∧ (∀ i, i < m → lt (p.getD i 0) (p.getD k 0) = true) ∧ (∀ i, m ≤ i → i < k → lt (p.getD k 0) (p.getD i 0) = true)
  | 0, l, r, hf, hlr, hr, h1, h2, _ => ⟨l, rfl, by lia, h1, fun i hi => h2 i (by lia)⟩
  | f + 1, l, r, hf, hlr, hr, h1, h2, U => by
    by_cases e : l ≥ r
    · refine ⟨l, ?_, by lia, h1, fun i hi => h2 i (by lia)⟩
      unfold kas_place; rw [if_pos e]; rfl
    · have q1 := P.lt k hk
      have q2 := P.lt ((l + r) / 2) (by lia)
      unfold kas_place
      rw [if_neg e]
      cases hc : lt (p.getD k 0) (p.getD ((l + r) / 2) 0) with
      | true =>
        obtain ⟨m, a, b⟩ := zgc O P hk f l ((l + r) / 2) (by lia) (by lia) (by lia) h1 (fun i hi hik => by
          by_cases e2 : i = (l + r) / 2
          · subst e2; exact hc
          · exact O.tr _ _ _ hc (U _ _ (by lia) hik)) U
        exact ⟨m, ⟨⟨q1, q2⟩, by rw [hc]; exact a⟩, b⟩
      | false =>
        have hd := O.tot _ _ q1 q2 (P.inj _ _ (by lia) hk).symm hc
        obtain ⟨m, a, b⟩ := zgc O P hk f ((l + r) / 2 + 1) r (by lia) (by lia) hr (fun i hi => by
          by_cases e2 : i = (l + r) / 2
          · subst e2; exact hd
          · exact O.tr _ _ _ (U _ _ (by lia) (by lia)) hd) h2 U
        exact ⟨m, ⟨⟨q1, q2⟩, by rw [hc]; exact a⟩, b⟩
theorem zlW (O : LtOk lt N) : ∀ (f k : Nat) {p : Array Nat}, p.toList.Perm (List.range N) → k + f = N → UpTo lt p k →
    ∃ q, KGo lt N (kas_bin f p k) q ∧ q.toList.Perm (List.range N) ∧ UpTo lt q N
  | 0, k, p, hp, hk, U => ⟨p, rfl, hp, by rw [show N = k by lia]; exact U⟩
  | f + 1, k, p, hp, hk, U => by
    have P := PermN.of hp
    refine ob4 (zgc O P (by lia : k < N) k 0 k (by lia) (by lia) (Nat.le_refl _) (fun i hi => by lia) (fun i h1 h2 => by lia) U) ?_
    intro m a hm h1 h2
    have hq : (bubble p k (k - m)).toList.Perm (List.range N) := (Array.perm_iff_toList_perm.mp (bubble_perm p k _)).trans hp
    have hg : ∀ i, (bubble p k (k - m)).getD i 0 = if i = m then p.getD k 0 else if m < i ∧ i ≤ k then p.getD (i - 1) 0 else p.getD i 0 := by
      intro i
      have := getElem?_bubble (xs := p) (src := k) (by rw [P.size]; lia) (k - m) (by lia) i
      rw [show k - (k - m) = m by lia] at this
      by_cases e1 : i = m
      · rw [if_pos e1] at this ⊢; exact ze2 this
      · rw [if_neg e1] at this ⊢
        by_cases e2 : m < i ∧ i ≤ k
        · rw [if_pos e2] at this ⊢; exact ze2 this
        · rw [if_neg e2] at this ⊢; exact ze2 this
    have U' : UpTo lt (bubble p k (k - m)) (k + 1) := by
      intro i j hij hj
      rw [hg, hg]
      by_cases ei : i = m
      · rw [if_pos ei, if_neg (by lia), if_pos (by lia)]
        exact h2 _ (by lia) (by lia)
      · rw [if_neg ei]
        by_cases ej : j = m
        · rw [if_pos ej, if_neg (by lia)]
          exact h1 _ (by lia)
        · rw [if_neg ej]
          by_cases e1 : m < i ∧ i ≤ k
          · rw [if_pos e1, if_pos (by lia)]
            exact U _ _ (by lia) (by lia)
          · rw [if_neg e1]
            by_cases e2 : m < j ∧ j ≤ k
            · rw [if_pos e2]; exact U _ _ (by lia) (by lia)
            · rw [if_neg e2]; exact U _ _ (by lia) (by lia)
    refine ob7 (zlW O f (k + 1) hq (by lia) U') ?_
    intro q b c
    exact ⟨q, KGo.bind a b, c⟩
theorem zmf (O : LtOk lt N) (h2 : 2 ≤ N) : ∃ q, KGo lt N (kas_sort N) q ∧ q.toList.Perm (List.range N) ∧ UpTo lt q N := by
  refine ob15 (zlz O (p := List.toArray (List.range N)) (List.Perm.refl _) h2) ?_
  intro m p a hp hm U
  by_cases e : m < N
  · obtain ⟨q, b, c⟩ := zlW O (N - max m 1) (max m 1) hp (by lia) (by rw [show max m 1 = m by lia]; exact U)
    refine ⟨q, KGo.bind a ?_, c⟩
    rw [if_pos e]; exact b
  · refine ⟨p, KGo.bind a ?_, hp, by rw [show N = m by lia]; exact U⟩
    rw [if_neg e]; rfl
end
end Mine
end
section
set_option linter.unusedVariables false
set_option linter.unusedSimpArgs false
namespace Mine
open PySem PySem.W PyProof.Rows
section
variable {prog : Program} {w : World} {A : Around} {E : Value → Shared → Prop} {s : Shared}
noncomputable def zbW (h : Heap) (a : Addr) (vs : List Value) : Heap := ((h.update a (Obj.mapSeq fun _ => #[])).push (seqObj "tuple" vs.toArray 0)).push (seqObj "list" #[] 0)
theorem zml {vs : List Value} : (List.range vs.length).map (fun i => vs.getD i Value.none) = vs := by
  apply List.ext_getElem?
  intro i
  rw [List.getElem?_map]
  by_cases h : i < vs.length
  · simp [h, List.getD]
  · simp [h]
theorem zg1 {a : Addr} {vs : List Value} {n : Nat} {P : PySem.Fin → Shared → Prop} {κ : SortKind} {lt : Nat → Nat → Bool} (ho : s.heap.get? a = some (seqObj "list" vs.toArray n)) (h64 : vs.length < 64) (O : LtOk lt vs.length)
    (hk : 2 ≤ vs.length → ∀ {E : Value → Shared → Prop} (Q : SortKind → Shared → Prop), Q κ { s with heap := zbW s.heap a vs } → wpAny (model prog w) A (keyKind' vs.toArray) Q E { s with heap := zbW s.heap a vs })
    (hc : ∀ i j C, i < vs.length → j < vs.length → C (lt i j) { s with heap := zbW s.heap a vs } → kas_ask prog w A κ vs i j C { s with heap := zbW s.heap a vs })
    (h : ∀ q : Array Nat, q.toList.Perm (List.range vs.length) → UpTo lt q vs.length → P (.done (.ret .none)) { s with heap := sortedHeap s.heap a vs (List.toArray (q.toList.map fun i => vs.getD i Value.none)) }) :
    wpAny (model prog w) A (Builtin.«list.sort» ⟨[.ref a], []⟩) P E s := by
  rw [list_sort_plain]
  have ha : a < s.heap.objs.size := Heap.lt_size ho
  refine wpAny_bind (listItems_at ho rfl ?_)
  refine wpAny_bind (listUpdate_at ho rfl ?_ (by rw [List.size_toArray, sizeLine_eq]; lia) (Nat.zero_le _))
  obtain ⟨e1, ho1⟩ : ∃ e1, (s.heap.update a (Obj.mapSeq fun _ => #[])).get? a = some (seqObj "list" #[] e1) := ⟨_, get?_update_seq ho (fun _ => #[])⟩
  refine wpAny_bind (seqEpoch_at ho1 rfl ?_)
  refine wpAny_bind (wpAny_newTuple ?_ (by show vs.length ≤ _; rw [sizeLine_eq]; lia))
  refine wpAny_bind (wpAny_newList ?_ (Nat.zero_le _))
  refine wpAny_holding ?_
  have ho6 : (zbW s.heap a vs).get? a = some (seqObj "list" #[] e1) := by
    unfold zbW
    rw [Heap.get?_push_ne _ _ _ (by rw [size_push', Heap.size_update]; exact Nat.ne_of_lt (Nat.lt_succ_of_lt ha)), Heap.get?_push_ne _ _ _ (by rw [Heap.size_update]; exact Nat.ne_of_lt ha)]
    exact ho1
  show wpAny (model prog w) A _ P E { s with heap := zbW s.heap a vs }
  dsimp only
  by_cases h2 : vs.toArray.size < 2
  · rw [if_pos h2, if_pos h2]
    refine wpAny_bind (wpAny_pure ?_)
    rw [StateT.run_pure]
    refine wpAny_bind (wpAny_pure ?_)
    dsimp only
    have hz : vs.length < 2 := by simpa using h2
    have e0 : (arrOf (SortSt.mk' general' (vs.toArray.zip vs.toArray) #[] 7 none)).map (·.2) = List.toArray ((List.toArray (List.range vs.length)).toList.map fun i => vs.getD i Value.none) := by
      show (vs.toArray.zip vs.toArray).map (·.2) = _
      rw [show (List.toArray (List.range vs.length)).toList = List.range vs.length from rfl, zml]
      apply Array.toList_inj.mp
      rw [Array.toList_map, Array.toList_zip]
      exact List.map_snd_zip (Nat.le_refl _)
    rw [e0]
    refine wpAny_bind (seqEpoch_at ho6 rfl ?_)
    refine wpAny_bind (listUpdate_at ho6 rfl ?_ (Nat.zero_le _) (by rw [List.size_toArray, List.length_map, sizeLine_eq]; simp; lia))
    show wpAny _ _ (do
      if let some e := failedOf (SortSt.mk' general' (vs.toArray.zip vs.toArray) #[] 7 none) then rule "list.sort.comparison-raised"; throw e
      if (e1 != e1) = true then rule "list.sort.modified"; raiseError "ValueError" "list modified during sort"
      ret .none) _ _ _
    simp only [bne_self_eq_false, Bool.false_eq_true, if_false]
    exact wpAny_pure (h (List.toArray (List.range vs.length)) (List.Perm.refl _) fun i j hij hj => by lia)
  · rw [if_neg h2, if_neg h2]
    have hz : 2 ≤ vs.length := by
      have : ¬ vs.length < 2 := by simpa using h2
      lia
    refine wpAny_bind (hk hz _ ?_)
    refine ob2 (zmf O hz) ?_
    intro q g hp U
    refine wpAny_bind (wpAny_mono (kat_run (s := { s with heap := zbW s.heap a vs }) (Q := fun st' s' => s' = { s with heap := zbW s.heap a vs } ∧ arrOf st' = q.map (kas_item (vs.toArray.zip vs.toArray)) ∧ failedOf st' = none)
      (G := fun p s' => s' = { s with heap := zbW s.heap a vs } ∧ p = q) rfl hz h64 (fun p' st' s' a1 a2 a3 a4 => ⟨a4.1, by rw [a2, a4.2], a3⟩) (KGo.wp hc ⟨rfl, rfl⟩ g)) ?_ fun _ _ e => e)
    intro zz6
    obtain ⟨⟨⟩, st'⟩ := zz6
    intro s' zz7
    refine ob16 zz7 ?_
    clear zz7
    intro ee45
    subst ee45
    intro har hf
    dsimp only
    rw [kat_snds rfl har]
    refine wpAny_bind (seqEpoch_at ho6 rfl ?_)
    have hql : q.toList.length = vs.length := by rw [hp.length_eq, List.length_range]
    refine wpAny_bind (listUpdate_at ho6 rfl ?_ (Nat.zero_le _) (by rw [List.size_toArray, List.length_map, hql, sizeLine_eq]; lia))
    rw [hf]
    simp only [bne_self_eq_false, Bool.false_eq_true, if_false]
    exact wpAny_pure (h q hp U)
noncomputable def zjq (h : Heap) (v : Value) (p : Int × Int) : Prop := ∃ b t u m, v = .ref b ∧ h.get? b = some (seqObj "tuple" #[.int p.1 t, .int p.2 u] m)
noncomputable def lexB (p q : Int × Int) : Bool := decide (p.1 < q.1) || (p.1 == q.1 && decide (p.2 < q.2))
theorem lexB_iff {p q : Int × Int} : lexB p q = true ↔ zbx p q := by simp [lexB, zbx]
theorem zne {v y : Value} {p q : Int × Int} {C : Bool → Shared → Prop} (hv : zjq s.heap v p) (hw : zjq s.heap y q) (h : C (lexB p q) s) : wpAny (model prog w) A (keyLt' (tuples' true) v y) C E s := by
  refine ob19 hv ?_
  clear hv
  intro b t u m ee46
  subst ee46
  intro hb
  refine ob19 hw ?_
  clear hw
  intro b' t' u' m' ee47
  subst ee47
  intro hb'
  refine kat_lt hb rfl hb' rfl (kat_cons (wpAny_eqBool_int (kat_go (fun e => kat_yes (kat_cons (wpAny_eqBool_int (kat_go (fun e2 => kat_yes (kat_nil ?_)) fun e2 => kat_no (kat_one _ _ (PyProof.Rows.lt_int ?_)))))) fun e => kat_no (oneLt_int ?_))))
  · have : lexB p q = false := by simp only [beq_iff_eq] at e e2; simp [lexB, e, e2]
    rw [this] at h; exact h
  · have : lexB p q = decide (p.2 < q.2) := by simp only [beq_iff_eq] at e; simp [lexB, e]
    rw [this] at h; exact h
  · have : lexB p q = decide (p.1 < q.1) := by simp only [lexB, e, Bool.false_and, Bool.or_false]
    rw [this] at h; exact h
theorem zic {h : Heap} : ∀ {vs : List Value} {ps : List (Int × Int)}, vs.length = ps.length → (∀ i, i < ps.length → zjq h (vs.getD i Value.none) (ps.getD i (0, 0))) →
    ∃ fs, KatTups h vs fs ∧ fs.length = vs.length ∧ ∀ v ∈ fs, ∃ i t, v = .int i t
  | [], [], _, _ => ⟨[], .nil, rfl, by simp⟩
  | [], _ :: _, e, _ => by simp at e
  | _ :: _, [], e, _ => by simp at e
  | v :: vs, p :: ps, e, h => by
    obtain ⟨fs, h1, h2, h3⟩ := zic (vs := vs) (ps := ps) (by simpa using e) (fun i hi => by have := h (i + 1) (by simp; lia); simpa using this)
    refine ob19 (h 0 (by simp)) ?_
    intro b t u m e' hb
    simp only [List.getD_cons_zero] at e' hb
    subst e'
    refine ⟨.int p.1 t :: fs, .cons hb rfl rfl rfl h1, by simp [h2], ?_⟩
    intro v hv
    rcases List.mem_cons.mp hv with rfl | hv
    · exact ⟨_, _, rfl⟩
    · exact h3 v hv
theorem znB {ps : List (Int × Int)} (hn : ps.Nodup) : LtOk (fun i j => lexB (ps.getD i (0, 0)) (ps.getD j (0, 0))) ps.length := by
  refine ⟨fun i => ?_, fun i j k h1 h2 => ?_, fun i j hi hj hij h => ?_⟩
  · simp [lexB]
  · rw [lexB_iff] at *
    unfold zbx at *
    lia
  · rw [lexB_iff]
    have h' : ¬ zbx (ps.getD i (0, 0)) (ps.getD j (0, 0)) := fun x => by rw [lexB_iff.mpr x] at h; cases h
    have hne : ps.getD i (0, 0) ≠ ps.getD j (0, 0) := by
      rw [List.getD_eq_getElem?_getD, List.getD_eq_getElem?_getD, List.getElem?_eq_getElem hi, List.getElem?_eq_getElem hj]
      simp only [Option.getD_some]
      have hp := List.pairwise_iff_getElem.mp hn
      rcases Nat.lt_or_gt_of_ne hij with q | q
      · exact hp i j hi hj q
      · exact (hp j i hj hi q).symm
    generalize ps.getD i (0, 0) = a at *
    generalize ps.getD j (0, 0) = b at *
    refine lift fun gg back => ?_
    obtain ⟨a1, a2⟩ := a
    obtain ⟨b1, b2⟩ := b
    refine back ?_
    clear back gg
    unfold zbx at *
    simp only [ne_eq, Prod.mk.injEq] at *
    lia
theorem zhM {h : Heap} {a b : Addr} {vs : List Value} {o : Obj} (hb : h.get? b = some o) (hba : b ≠ a) : (zbW h a vs).get? b = some o := by
  unfold zbW
  refine zbd _ _ (zbd _ _ ?_)
  rw [Heap.get?_update_ne _ _ _ _ hba]; exact hb
theorem zgM {l : Addr} {vs : List Value} {ps : List (Int × Int)} {Q : Value → Shared → Prop} (hl : s.heap.IsList l vs.toArray) (e : vs.length = ps.length) (hP : ∀ i, i < ps.length → zjq s.heap (vs.getD i Value.none) (ps.getD i (0, 0)))
    (hn : ps.Nodup) (h64 : ps.length < 64)
    (h : ∀ q : Array Nat, q.toList.Perm (List.range ps.length) → (q.toList.map fun i => ps.getD i (0, 0)).Pairwise zbx → Q (.ref (s.heap.objs.size + 1)) { s with heap := sortedAll s.heap vs (List.toArray (q.toList.map fun i => vs.getD i Value.none)) }) :
    wpAny (model prog w) A (call (.builtin "sorted") [.ref l]) Q E s := by
  refine Calls.call_function_entry kind_sorted plain_sorted entry_sorted (args_sorted1 _) ?_
  unfold Builtin.«sorted»
  refine wpAny_bind (m := checkCount "sorted" 1 1 _) (wpAny_pure ?_)
  refine wpAny_bind (collect_list hl ?_ (by rw [sizeLine_eq]; lia))
  refine wpAny_bind (wpAny_newList ?_ (by rw [sizeLine_eq]; lia))
  have hsz : ((s.heap.push (seqObj "list" #[] 0)).update s.heap.objs.size (Obj.mapSeq (· ++ vs.toArray))).objs.size = s.heap.objs.size + 1 := by
    rw [Heap.size_update, size_push']
  have hoL : (((s.heap.push (seqObj "list" #[] 0)).update s.heap.objs.size (Obj.mapSeq (· ++ vs.toArray))).push (seqObj "list" vs.toArray 0)).get? (s.heap.objs.size + 1) = some (seqObj "list" vs.toArray 0) := by
    rw [← hsz]; exact Heap.get?_push_size _ rfl
  have keep : ∀ b o, s.heap.get? b = some o → (((s.heap.push (seqObj "list" #[] 0)).update s.heap.objs.size (Obj.mapSeq (· ++ vs.toArray))).push (seqObj "list" vs.toArray 0)).get? b = some o := fun b o q => by
    have hlt : b < s.heap.objs.size := Heap.lt_size q
    rw [Heap.get?_push_ne _ _ _ (by rw [hsz]; exact Nat.ne_of_lt (Nat.lt_succ_of_lt hlt)), Heap.get?_update_ne _ _ _ _ (Nat.ne_of_lt hlt), Heap.get?_push_ne _ _ _ (Nat.ne_of_lt hlt)]
    exact q
  show wpAny _ _ _ _ _ { s with heap := ((s.heap.push (seqObj "list" #[] 0)).update s.heap.objs.size (Obj.mapSeq (· ++ vs.toArray))).push (seqObj "list" vs.toArray 0) }
  rw [hsz]
  generalize hH : ((s.heap.push (seqObj "list" #[] 0)).update s.heap.objs.size (Obj.mapSeq (· ++ vs.toArray))).push (seqObj "list" vs.toArray 0) = H at *
  have hT : ∀ i, i < ps.length → zjq (zbW H (s.heap.objs.size + 1) vs) (vs.getD i Value.none) (ps.getD i (0, 0)) := fun i hi => by
    refine ob19 (hP i hi) ?_
    intro b t u m e1 e2
    exact ⟨b, t, u, m, e1, zhM (keep _ _ e2) (Nat.ne_of_lt (Nat.lt_succ_of_lt (Heap.lt_size e2)))⟩
  have O := znB hn
  rw [← e] at O
  refine wpAny_bind (wpAny_holding (wpAny_call_entry slot_list_sort ⟨_, hoL, rfl⟩ entry_list_sort (zg1 (s := { s with heap := H }) (κ := tuples' true) hoL (by lia) O (fun h2 E' Q' q => ?_) (fun i j C hi hj q => ?_) fun q hp U => ⟨_, rfl, ?_⟩) (args_list_sort _)))
  · refine ob2 (zic e hT) ?_
    intro fs k1 k2 k3
    refine kat_kind (T := .type "int") k1 (by lia) (fun v hv => ?_) (by decide) q
    refine ob18 (k3 v hv) ?_
    intro i t ee48
    subst ee48
    exact .now
  · exact zne (hT i (by lia)) (hT j (by lia)) q
  · refine wpAny_pure ⟨_, rfl, ?_⟩
    have := h q (by rw [← e]; exact hp) (by
      refine List.pairwise_iff_getElem.mpr fun i j hi hj hij => ?_
      rw [List.getElem_map, List.getElem_map]
      have hql : q.toList.length = vs.length := by rw [hp.length_eq, List.length_range]
      have hi' : i < q.size := by simpa using hi
      have hj' : j < q.size := by simpa using hj
      have := U i j hij (by rw [← hql]; simpa using hj)
      rw [lexB_iff] at this
      simpa [Array.getD, hi', hj'] using this)
    unfold sortedAll at this
    rw [hH] at this
    exact this
end
section
variable {C : Cx} {A : Around} {E : Value → Shared → Prop} {σ : Store} {s : Shared} {Q : V → Store → Prop}
theorem zjL {ps : List (Int × Int)} : (List.range ps.length).map (fun i => ps.getD i (0, 0)) = ps := by
  apply List.ext_getElem?
  intro i
  rw [List.getElem?_map]
  by_cases h : i < ps.length
  · simp [h, List.getD]
  · simp [h]
theorem zju {h : Heap} {f : Nat → V} {g : Nat → Value} : ∀ {l : List Nat}, (∀ i ∈ l, VR h (f i) (g i)) → VRs h (l.map f) (l.map g)
  | [], _ => .nil
  | i :: l, k => .cons (k i (.head _)) (zju fun j hj => k j (.tail _ hj))
theorem zkU {h : Heap} {p : Int × Int} {x : Value} (v : VR h (pr p) x) : zjq h x p := by
  refine ob6 v.tup_of ?_
  intro a xs n ee49
  subst ee49
  intro ha hX
  cases hX with
  | cons v1 hX =>
    cases hX with
    | cons v2 hX =>
      cases hX
      refine ob12 v1.int_of ?_
      intro t ee50
      subst ee50
      refine ob12 v2.int_of ?_
      intro u ee51
      subst ee51
      exact ⟨a, t, u, n, rfl, ha⟩
theorem ziX {a : Addr} {vs : List V} (r : Rel C σ s.heap) (ha : σ a = some (.list vs)) (q : zmg vs fun ws => Mine.alloc σ (.list ws) Q) : wpAny C.M A (call (.builtin "sorted") [.ref a]) (PostV C σ s Q) E s := by
  refine ob25 q ?_
  clear q
  intro ps ee52
  subst ee52
  intro hn h64 q
  refine ob1 (r.list ha) ?_
  intro xs n hL hX _
  have e : xs.length = ps.length := by have := hX.length; simpa using this.symm
  have hV : ∀ i, i < ps.length → VR s.heap (pr (ps.getD i (0, 0))) (xs.getD i Value.none) := fun i hi => by
    obtain ⟨b, h1, h2⟩ := hX.get (i := i) (a := pr (ps.getD i (0, 0))) (by rw [List.getElem?_map, List.getD_eq_getElem?_getD, List.getElem?_eq_getElem hi]; rfl)
    rw [List.getD_eq_getElem?_getD (l := xs), h1]; exact h2
  refine zgM hL.isList e (fun i hi => zkU (hV i hi)) hn h64 fun p hp hs => ?_
  have hq := q _ (by have := hp.map fun i => ps.getD i (0, 0); rw [zjL] at this; exact this) hs
  refine ob12 (sortedAll_at s.heap xs (List.toArray (p.toList.map fun i => xs.getD i Value.none))) ?_
  intro c hc
  refine zdL (s := s) (h' := sortedAll s.heap xs (List.toArray (p.toList.map fun i => xs.getD i Value.none))) (xs := p.toList.map fun i => xs.getD i Value.none) (n := c) (t := s.toks) r hq (fun b ob hb => sortedAll_old hb) ?_ (Nat.le_succ _) hc ?_ ?_
  · unfold sortedAll sortedHeap
    simp only [Heap.size_update, Heap.size_push]; lia
  · rw [List.map_map]
    exact zju fun i hi => hV i (List.mem_range.mp (hp.subset hi))
  · have := hp.length_eq
    rw [List.length_range] at this
    rw [List.length_map, List.length_map, this]
    unfold zbb; lia
end
end Mine
end
section
set_option linter.unusedVariables false
set_option maxRecDepth 100000
namespace Mine
open PySem PySem.W PySem.Calls PyProof.Rows
section
variable {C : Cx} {A : Around} {E : Value → Shared → Prop} {σ : Store} {s : Shared} {Q : V → Store → Prop}
theorem zi8 {md : Bool} {v : V} {K : List V → Prop} (h : zjN md σ v K) : ∃ a vs, v = .ref a ∧ K vs ∧ σ a = some (.list vs) := by
  unfold zjN at h
  cases v with
  | ref a =>
    dsimp only at h
    split at h
    · exact ⟨_, _, rfl, h, by assumption⟩
    · exact h.elim
  | _ => exact h.elim
theorem zgO {vs ws : List V} (h : zeb vs = some ws) : ∃ ns, ints? vs = some ns ∧ vs.length < 64 ∧ ws = (ns.mergeSort (fun a b => decide (a ≤ b))).map V.int := by
  unfold zeb at h
  split at h
  · split at h
    · cases h; exact ⟨_, by assumption, by assumption, rfl⟩
    · cases h
  · cases h
theorem zjH {md : Bool} {u : V} {x : Value} (hl : C.base.NoLimit) (hh : md = true → A.handled = none) (r : Rel C σ s.heap) (hu : VR s.heap u x) (q : b1V md .sorted u σ Q) :
    wpAny C.M A (call (.builtin "sorted") [x]) (PostV C σ s Q) E s := by
  rcases q with q | q
  · refine lift fun gg back => ?_
    refine ob1 (zi8 q) ?_
    intro a vs ee53
    subst ee53
    intro q ha
    refine ob7 (za6 q) ?_
    intro ws hw q
    refine ob2 (zgO hw) ?_
    intro ns h1 h2 ee54
    subst ee54
    cases hu.ref_of
    refine back ?_
    clear back gg
    exact ziY r ha h1 h2 q
  · refine lift fun gg back => ?_
    refine ob1 (zbq q) ?_
    intro a vs ee55
    subst ee55
    intro ha q
    cases hu.ref_of
    refine back ?_
    clear back gg
    exact ziX r ha q
end
end Mine
end
section
set_option linter.unusedVariables false
set_option maxRecDepth 100000
namespace Mine
open PySem PySem.W PySem.Calls PyProof.Rows
section
variable {C : Cx} {A : Around} {E : Value → Shared → Prop} {σ : Store} {s : Shared} {Q : V → Store → Prop}
theorem VRs.key {h : Heap} {ns : List Int} {xs : List Value} (r : VRs h (ns.map fun n => V.tup [.int n, .bool true]) xs) {i : Nat} (hi : i < ns.length) : ∃ a t m, xs[i]? = some (.ref a) ∧ h.get? a = some (seqObj "tuple" [Value.int ns[i] t, Value.bool true].toArray m) := by
  refine ob7 (r.get (i := i) (a := .tup [.int ns[i], .bool true]) (by simp [hi])) ?_
  intro x hx hv
  refine ob6 hv.tup_of ?_
  intro a ys m ee56
  subst ee56
  intro ha hY
  cases hY with | cons p q => cases q with | cons p2 q => cases q with | nil =>
  refine lift fun gg back => ?_
  refine ob12 p.int_of ?_
  intro t ee57
  subst ee57
  cases p2.bool_of
  refine back ?_
  clear back gg
  exact ⟨a, t, m, hx, ha⟩
end
end Mine
end
section
set_option linter.unusedVariables false
namespace Mine
open PySem PySem.W PySem.Calls PyProof.Rows
noncomputable def znc (K : Frag) (Cl : Addr) : Prop :=
  plainGet K Cl ("x" : Str) = true ∧ findIn K (.ref Cl) "__setattr__" = some (some (.builtin "object.__setattr__")) ∧ plainOver K Cl = true ∧ hasDictIn K Cl = true
structure CxOk (C : Cx) : Prop where
  inK : C.K.In C.base
  g : C.base.Ns mainGlobals C.mg
  b : C.base.Ns builtinsNs C.mb
  nolimit : C.base.NoLimit
  bn : ∀ x v, (x, v) ∈ bNames → C.mg (Str.ofString x) = none ∧ C.mb (Str.ofString x) = some v
  glob : ∀ x i, zkj x = some i → ∃ t, C.mg (Str.ofString x) = some (.int i t)
  clsNe : C.cls "" = none
  clsG : ∀ c Cl, C.cls c = some Cl → C.mg (Str.ofString c) = some (.ref Cl)
  fnG : ∀ f a, C.fn "" f = some a → C.mg (Str.ofString f) = some (.ref a) ∧ ∃ o fd, C.base.get? a = some o ∧ o.data = .func fd
  made : ∀ c fa, C.fn c "__init__" = some fa → c ≠ "" → ∃ Cl, C.cls c = some Cl ∧ keepIn C.K (.ref Cl) = true ∧ makesIn C.K Cl = true ∧ findIn C.K (.ref Cl) "__init__" = some (some (.ref fa)) ∧ typeIn C.K (.ref fa) = some (.type "function")
  meth : ∀ c name fa Cl, C.fn c name = some fa → c ≠ "" → C.cls c = some Cl → znc C.K Cl ∧ findIn C.K (.ref Cl) (Str.ofString name) = some (some (.ref fa)) ∧ isFn C.K (.ref fa) = true ∧ ∃ o fd, C.base.get? fa = some o ∧ o.data = .func fd
  flds : ∀ c name Cl, C.fld c name = true → C.cls c = some Cl → znc C.K Cl ∧ findIn C.K (.ref Cl) (Str.ofString name) = some none
section
variable {C : Cx} {A : Around} {E : Value → Shared → Prop} {σ : Store} {s : Shared} {Q : V → Store → Prop}
theorem zfI (X : CxOk C) (r : Rel C σ s.heap) : C.K.In s.heap := X.inK.keeps r.stays
theorem isStr_iff {n name : String} {t : Tok} : (Value.str (Str.ofString n) t).isStr (Str.ofString name) = true ↔ n = name := by
  show (Str.ofString n == Str.ofString name) = true ↔ _
  rw [beq_iff_eq]
  exact ⟨ofString_inj, fun e => by rw [e]⟩
theorem zhP {n name : String} {t : Tok} (h : n ≠ name) : (Value.str (Str.ofString n) t).isStr (Str.ofString name) = false := by
  rw [← Bool.not_eq_true]; exact fun e => h (isStr_iff.mp e)
theorem NR.noRef {h : Heap} : ∀ {fs : List (String × V)} {es : List DictEntry}, NR h fs es → es.any (·.refKey) = false
  | [], [], _ => rfl
  | (_, _) :: _, e :: _, ⟨⟨t, ht⟩, _, c⟩ => by
    rw [List.any_cons, NR.noRef c, Bool.or_false]
    unfold DictEntry.refKey; rw [ht]
  | [], _ :: _, f => f.elim
  | _ :: _, [], f => f.elim
theorem NR.find {h : Heap} {name : String} : ∀ {fs : List (String × V)} {es : List DictEntry}, NR h fs es →
    (∀ v, fs.lookup name = some v → ∃ x, getL (Str.ofString name) es = some (some x) ∧ VR h v x) ∧ (fs.lookup name = none → getL (Str.ofString name) es = some none)
  | [], [], _ => ⟨fun v e => (by simp at e), fun _ => rfl⟩
  | (n, u) :: fs, e :: es, ⟨⟨t, ht⟩, b, c⟩ => by
    refine ob14 (NR.find (name := name) c) ?_
    intro h1 h2
    have hr := NR.noRef c
    have hre : e.refKey = false := by unfold DictEntry.refKey; rw [ht]
    by_cases q : n = name
    · subst q
      have hs : e.key.isStr (Str.ofString n) = true := by rw [ht]; exact isStr_iff.mpr rfl
      refine ⟨fun v hv => ?_, fun hv => ?_⟩
      · rw [List.lookup_cons, beq_self_eq_true] at hv; cases hv
        exact ⟨e.val, by unfold getL; rw [List.find?_cons, hs], b⟩
      · rw [List.lookup_cons, beq_self_eq_true] at hv; cases hv
    · have hs : e.key.isStr (Str.ofString name) = false := by rw [ht]; exact zhP q
      have hg : getL (Str.ofString name) (e :: es) = getL (Str.ofString name) es := by unfold getL; rw [List.find?_cons, hs, List.any_cons, hre, Bool.false_or]
      have hl : List.lookup name ((n, u) :: fs) = List.lookup name fs := by rw [List.lookup_cons, beq_eq_false_iff_ne.mpr (Ne.symm q)]
      rw [hg, hl]; exact ⟨h1, h2⟩
  | [], _ :: _, f => f.elim
  | _ :: _, [], f => f.elim
theorem NR.put {h : Heap} {name : String} {v : V} {x : Value} {hsh : Int} {t : Tok} (hv : VR h v x) : ∀ {fs : List (String × V)} {es : List DictEntry}, NR h fs es → NR h (putF name v fs) (putL (Str.ofString name) hsh (.str (Str.ofString name) t) x es)
  | [], [], _ => ⟨⟨t, rfl⟩, hv, trivial⟩
  | (n, u) :: fs, e :: es, ⟨⟨t', ht⟩, b, c⟩ => by
    unfold putF putL
    by_cases q : n = name
    · subst q
      have hs : e.key.isStr (Str.ofString n) = true := by rw [ht]; exact isStr_iff.mpr rfl
      rw [if_pos rfl, if_pos hs]
      exact ⟨⟨t', ht⟩, hv, c⟩
    · have hs : ¬ e.key.isStr (Str.ofString name) = true := by rw [ht]; exact fun z => q (isStr_iff.mp z)
      rw [if_neg q, if_neg hs]
      exact ⟨⟨t', ht⟩, b, NR.put hv c⟩
  | [], _ :: _, f => f.elim
  | _ :: _, [], f => f.elim
theorem NR.length {h : Heap} : ∀ {fs : List (String × V)} {es : List DictEntry}, NR h fs es → fs.length = es.length
  | [], [], _ => rfl
  | (_, _) :: _, e :: _, ⟨_, _, c⟩ => by simp [NR.length c]
  | [], _ :: _, f => f.elim
  | _ :: _, [], f => f.elim
theorem zeR (name : String) (v : V) : ∀ fs, (putF name v fs).length ≤ fs.length + 1
  | [] => by simp [putF]
  | (n, u) :: r => by
    unfold putF
    split
    · simp
    · have := zeR name v r; simp; lia
theorem zfC (name : String) (v : V) : ∀ {fs : List (String × V)}, (fs.map (·.1)).Nodup → ((putF name v fs).map (·.1)).Nodup ∧ ∀ y, y ∈ (putF name v fs).map (·.1) → y = name ∨ y ∈ fs.map (·.1)
  | [], _ => by simp [putF]
  | (n, u) :: r, hn => by
    simp only [List.map_cons, List.nodup_cons] at hn
    refine ob14 (zfC name v hn.2) ?_
    intro h1 h2
    unfold putF
    split
    · rename_i e
      simp only [List.map_cons, List.nodup_cons]
      exact ⟨hn, fun y hy => by rcases List.mem_cons.mp hy with rfl | hy <;> simp_all⟩
    · rename_i e
      simp only [List.map_cons, List.nodup_cons, List.mem_cons]
      refine ⟨⟨fun hm => ?_, h1⟩, fun y hy => ?_⟩
      · rcases h2 _ hm with q | q
        · exact e q
        · exact hn.1 q
      · rcases hy with rfl | hy
        · exact .inr (.inl rfl)
        · rcases h2 _ hy with q | q
          · exact .inl q
          · exact .inr (.inr q)
theorem zhR {a d Cl : Addr} {es : List DictEntry} {n : Nat} {h : Heap} (h1 : h.get? a = some (instObj Cl d)) (h2 : h.get? d = some (dictOf es n)) : InstAt h a (instObj Cl d) Cl (some (dictOf es n)) := ⟨h1, rfl, rfl, h2⟩
theorem zki {v : V} {x : Value} (h : VR s.heap v x) : handedIn x = true := by cases h <;> rfl
theorem zna {F : String → String → Prop} {u : V} {x : Value} {name : String} {K : V → Prop} {Q' : Value → Shared → Prop} {expr : Bool} (X : CxOk C) (r : Rel C σ s.heap) (hu : VR s.heap u x) (hF : ∀ c, F c name → C.fld c name = true)
    (q : zdl F u name σ K) (h : ∀ z w t, K z → VR s.heap z w → Q' w { s with toks := t }) : wpAny C.M A (getAttr x (Str.ofString name) expr) Q' E s := by
  refine lift fun gg back => ?_
  obtain ⟨a, c, d, fs, rfl, ha, hd, hf, q⟩ := zdW q
  refine ob7 (za6 q) ?_
  intro v hv q
  cases hu.ref_of
  refine ob7 (r.tr a _ ha) ?_
  intro Cl hc hi
  refine ob1 (r.tr d _ hd) ?_
  intro es n hdo hn _
  refine ob26 (X.flds c name Cl (hF c hf) hc) ?_
  intro k1 k2 k3 k4 k5
  refine ob7 ((NR.find (name := name) hn).1 v hv) ?_
  intro y hy hvy
  refine back ?_
  clear back gg
  exact get_value (K := C.K) (zfI X r) (zhR hi hdo) (plainGet_of k1).1 (findObj_own (attr := none) k4 k5 rfl hy) (zki hvy) (h v y _ q hvy)
theorem zg9 {a d Cl : Addr} {c name : String} {fs : List (String × V)} {fa : Addr} {pl : Sem Bool} {Q' : Value × List Value → Shared → Prop} (X : CxOk C) (r : Rel C σ s.heap) (ha : σ a = some (.inst c d)) (hd : σ d = some (.ns fs)) (hl : fs.lookup name = none)
    (hfa : C.fn c name = some fa) (hc0 : c ≠ "") (h : Q' (.ref fa, [.ref a]) s) : wpAny C.M A (getMethod (.ref a) (Str.ofString name) pl) Q' E s := by
  refine lift fun gg back => ?_
  refine ob7 (r.tr a _ ha) ?_
  intro Cl hc hi
  refine ob1 (r.tr d _ hd) ?_
  intro es n hdo hn _
  refine ob27 (X.meth c name fa Cl hfa hc0 hc) ?_
  intro k1 k2 k3 k4 k5 k6 _
  refine back ?_
  clear back gg
  exact method_fn (zfI X r) (zhR hi hdo) (plainGet_of k1).1 (plainGet_of k1).2 k5 (beq_iff_eq.mp k6) (by show (lookIn _ (dictOf es n)).map _ = _; rw [lookIn_dict, (NR.find (name := name) hn).2 hl]; rfl) h
theorem zi2 {F : String → String → Prop} {u v : V} {x y : Value} {name : String} {K : Store → Prop} (X : CxOk C) (r : Rel C σ s.heap) (hu : VR s.heap u x) (hv : VR s.heap v y) (hF : ∀ c, F c name → C.fld c name = true)
    (q : zd5 F u name v σ K) : wpAny C.M A (setAttr x (Str.ofString name) y) (fun _ s' => ∃ σ', K σ' ∧ Step C No σ s σ' s') E s := by
  refine lift fun gg back => ?_
  obtain ⟨a, c, d, fs, rfl, ha, hd, ⟨hf, hlen⟩, q⟩ := zdW q
  cases hu.ref_of
  refine ob7 (r.tr a _ ha) ?_
  intro Cl hc hi
  refine ob1 (r.tr d _ hd) ?_
  intro es n hdo hn hnd
  refine ob26 (X.flds c name Cl (hF c hf) hc) ?_
  intro k1 k2 k3 k4 k5
  refine back ?_
  clear back gg
  have hK := zfI X r
  have I := zhR hi hdo
  refine set_plain hK I k2 (osa_open (s := { s with toks := s.toks + 1 }) (r := none) hK I k3 (by unfold takerIn; rw [k5]; rfl) fun b => ?_)
  refine ob7 (any_some k4) ?_
  intro cd hcc hd'
  have hsb : Heap.SameBut d s.heap (s.heap.update d (Obj.putName (Str.ofString name) (PyData.keyHash C.w.params (Str.ofString name)) (.str (Str.ofString name) (s.toks + 1)) y)) := ⟨Heap.size_update .., fun b hb => Heap.get?_update_other _ _ (Ne.symm hb)⟩
  have D' : (s.heap.update d (Obj.putName (Str.ofString name) (PyData.keyHash C.w.params (Str.ofString name)) (.str (Str.ofString name) (s.toks + 1)) y)).get? d =
      some (dictOf (putL (Str.ofString name) (PyData.keyHash C.w.params (Str.ofString name)) (.str (Str.ofString name) (s.toks + 1)) y es) (putN (Str.ofString name) es n)) := by
    rw [← putName_dict]
    exact Heap.get?_update_self _ hdo (by rw [putName_dict]; rfl)
  have hlen' : (putL (Str.ofString name) (PyData.keyHash C.w.params (Str.ofString name)) (.str (Str.ofString name) (s.toks + 1)) y es).length ≤ 101 := by
    have h1 := (NR.put (hsh := PyData.keyHash C.w.params (Str.ofString name)) (t := s.toks + 1) (name := name) hv hn).length
    have h2 := zeR name v fs
    lia
  have fin : ∀ t, ∃ σ', K σ' ∧ Step C No σ s σ' { s with heap := s.heap.update d (Obj.putName (Str.ofString name) (PyData.keyHash C.w.params (Str.ofString name)) (.str (Str.ofString name) (s.toks + 1)) y), toks := t } := fun t =>
    ⟨_, q, .turn r hd (fun _ e => by cases e) hsb fun k => ⟨_, _, D', (NR.put hv hn).keep k, (zfC name v hnd).1⟩⟩
  refine wpAny_bind (wpAny_pure (wpAny_bind (wpAny_bind (wpAny_loadPart hi (wpAny_bind (Looks.here (s := { s with toks := s.toks + 1 }) (looks_clsIn hK hcc) ?_))))))
  rw [hd']
  refine wpAny_pure (a := some d) (wpAny_bind (wpAny_pure (wpAny_bind ?_)))
  unfold nsSet
  refine wpAny_bind (wpAny_bind (wpAny_askSetting (wpAny_pure (wpAny_bind (wpAny_mkText (wpAny_bind (wpAny_loadPart hdo ?_)))))))
  have cc : (!es.toArray.any (·.key.isStr (Str.ofString name)) && es.toArray.any (·.refKey)) = false := by
    rw [← Array.any_toList, ← Array.any_toList]
    simp only [hn.noRef, Bool.and_false]
  dsimp only
  rw [aRefKeyMayBeTheName_at, cc]
  refine wpAny_updatePart hdo ?_
  refine wpAny_bind (wpAny_lookBehind D' (pastItsLine_dict (by rw [List.size_toArray, sizeLine_eq]; lia)) ?_)
  exact wpAny_pure (fin _)
end
end Mine
end
section
set_option linter.unusedVariables false
namespace Mine
open PySem PySem.W PySem.Calls PyProof.Rows
structure EnvS (S : Sc) (env : Env) : Prop extends EnvOk env where
  names : env.scope.names = S.names
  nm : NmOk S.nm S.size
  cells : ∀ x, (S.names.lookup x = some .cell ∨ S.names.lookup x = some .free) → (env.cells.lookup x).isSome = true
theorem EnvS.kindOf {S : Sc} {env : Env} (h : EnvS S env) (x : Str) : env.kindOf x = S.names.lookup x := by unfold Env.kindOf; rw [h.names]
structure Dyn (C : Cx) (k : Nat) (md : Bool) (S : Sc) (A : Around) (env : Env) (ρ : Loc) (σ : Store) (s : Shared) : Prop where
  a : AOk C (k + 1) md A σ s.heap
  r : Rel C σ s.heap
  l : LR C σ s.heap env S.nm ρ
  len : ρ.length = S.size
structure ARun (C : Cx) (k : Nat) (md : Bool) (A : Around) (σ : Store) (h : Heap) : Prop where
  frames : FramesOk C A σ h
  handled : md = true → A.handled = none
  depth : A.depth + 3 * k + 1 < 990
  units : A.units + 40 * k + 10 < 9000
structure CallsOk (C : Cx) (k : Nat) (md : Bool) (Φ : Calls) : Prop where
  dom : ∀ c f, Φ.has c f = true → ∃ a, C.fn c f = some a
  fld : ∀ c f, Φ.fld c f → C.fld c f = true
  run : ∀ {c f : String} {a : Addr} {vs : List V} {xs : List Value} {σ : Store} {s : Shared} {A : Around} {Q : V → Store → Prop} {X : XP}, C.fn c f = some a → ARun C k md A σ s.heap → Rel C σ s.heap → VRs s.heap vs xs → Φ.run c f vs σ Q X →
    codeAny C.M A (.call (.ref a) ⟨xs, []⟩) (fun r s' => match r with | .ok (.ret v) => PostV C σ s Q v s' | .ok _ => False | .error e => PostX C σ s X e s') s
structure Sur (C : Cx) (k : Nat) (md : Bool) (Φ : Calls) (S : Sc) (env : Env) : Prop where
  X : CxOk C
  ca : CallsOk C k md Φ
  ev : EnvS S env
noncomputable def EvP (C : Cx) (e : Ex) : Prop := ∀ {k : Nat} {md : Bool} {Φ : Calls} {S : Sc} {x : Expr} {env : Env} {A : Around} {ρ : Loc} {σ : Store} {s : Shared} {Q : V → Store → Prop} {X : XP},
  Sur C k md Φ S env → Dyn C k md S A env ρ σ s → za8 S e x = true → wpE Φ md e ρ σ Q X → wpAny C.M A (eval x env) (PostV C σ s Q) (PostX C σ s X) s
noncomputable def zjr (C : Cx) (σ : Store) (s : Shared) (Q : V → Store → Prop) : Bool → Shared → Prop := fun b s' => ∃ V σ', Q V σ' ∧ Mine.truthy σ' V = some b ∧ Step C No σ s σ' s'
noncomputable def TrP (C : Cx) (e : Ex) : Prop := ∀ {k : Nat} {md : Bool} {Φ : Calls} {S : Sc} {x : Expr} {env : Env} {A : Around} {ρ : Loc} {σ : Store} {s : Shared} {Q : V → Store → Prop} {X : XP},
  Sur C k md Φ S env → Dyn C k md S A env ρ σ s → za8 S e x = true → wpE Φ md e ρ σ Q X → (∀ V σ', Q V σ' → ∃ b, Mine.truthy σ' V = some b) → wpAny C.M A (isTrue x env (eval x env)) (zjr C σ s Q) (PostX C σ s X) s
noncomputable def znY (C : Cx) (σ : Store) (s : Shared) (Q : List V → Store → Prop) : List Value → Shared → Prop := fun xs s' => ∃ vs σ', Q vs σ' ∧ VRs s'.heap vs xs ∧ Step C No σ s σ' s'
noncomputable def EvsP (C : Cx) (es : Exs) : Prop := ∀ {k : Nat} {md : Bool} {Φ : Calls} {S : Sc} {xs : List Expr} {env : Env} {A : Around} {ρ : Loc} {σ : Store} {s : Shared} {Q : List V → Store → Prop} {X : XP} {pos : Pos},
  Sur C k md Φ S env → Dyn C k md S A env ρ σ s → zbu S es xs = true → wpEs Φ md es ρ σ Q X → wpAny C.M A (spliced (backTo pos (starEach xs env))) (znY C σ s Q) (PostX C σ s X) s
noncomputable def EvoP (C : Cx) (o : ExO) : Prop := ∀ {k : Nat} {md : Bool} {Φ : Calls} {S : Sc} {x : Option Expr} {env : Env} {A : Around} {ρ : Loc} {σ : Store} {s : Shared} {Q : V → Store → Prop} {X : XP},
  Sur C k md Φ S env → Dyn C k md S A env ρ σ s → zeX S o x = true → wpO Φ md o ρ σ Q X → wpAny C.M A (evalPart x env) (PostV C σ s Q) (PostX C σ s X) s
section
variable {C : Cx} {k : Nat} {md : Bool} {Φ : Calls} {S : Sc} {env : Env} {A : Around} {ρ : Loc} {σ σ₁ : Store} {s s₁ : Shared} {X : XP} {Q : V → Store → Prop}
theorem Dyn.step {σ' : Store} {s' : Shared} (d : Dyn C k md S A env ρ σ s) (st : Step C No σ s σ' s') : Dyn C k md S A env ρ σ' s' := ⟨d.a.step st, st.rel, d.l.step st, d.len⟩
theorem seqE {t : Sem Value} {Q₁ : V → Store → Prop} {K : Value → Shared → Prop} (st : Step C No σ s σ₁ s₁) (h : wpAny C.M A t (PostV C σ₁ s₁ Q₁) (PostX C σ₁ s₁ X) s₁)
    (k : ∀ v V σ₂ s₂, Q₁ V σ₂ → VR s₂.heap V v → Step C No σ₁ s₁ σ₂ s₂ → Step C No σ s σ₂ s₂ → K v s₂) : wpAny C.M A t K (PostX C σ s X) s₁ :=
  wpAny_mono h (fun v s₂ ⟨V, σ₂, q, hv, st₂⟩ => k v V σ₂ s₂ q hv st₂ (st.trans st₂)) fun _ _ hx => hx.from st
theorem seqL {t : Sem (List Value)} {Q₁ : List V → Store → Prop} {K : List Value → Shared → Prop} (st : Step C No σ s σ₁ s₁) (h : wpAny C.M A t (znY C σ₁ s₁ Q₁) (PostX C σ₁ s₁ X) s₁)
    (k : ∀ v V σ₂ s₂, Q₁ V σ₂ → VRs s₂.heap V v → Step C No σ₁ s₁ σ₂ s₂ → Step C No σ s σ₂ s₂ → K v s₂) : wpAny C.M A t K (PostX C σ s X) s₁ :=
  wpAny_mono h (fun v s₂ ⟨V, σ₂, q, hv, st₂⟩ => k v V σ₂ s₂ q hv st₂ (st.trans st₂)) fun _ _ hx => hx.from st
theorem seqB {t : Sem Bool} {Q₁ : V → Store → Prop} {K : Bool → Shared → Prop} (st : Step C No σ s σ₁ s₁) (h : wpAny C.M A t (zjr C σ₁ s₁ Q₁) (PostX C σ₁ s₁ X) s₁)
    (k : ∀ b V σ₂ s₂, Q₁ V σ₂ → Mine.truthy σ₂ V = some b → Step C No σ₁ s₁ σ₂ s₂ → Step C No σ s σ₂ s₂ → K b s₂) : wpAny C.M A t K (PostX C σ s X) s₁ :=
  wpAny_mono h (fun v s₂ ⟨V, σ₂, q, hv, st₂⟩ => k v V σ₂ s₂ q hv st₂ (st.trans st₂)) fun _ _ hx => hx.from st
theorem fin {s₂ : Shared} {t : Sem Value} {E : Value → Shared → Prop} (st : Step C No σ s σ₁ s₁) (h : wpAny C.M A t (PostV C σ₁ s₁ Q) E s₂) : wpAny C.M A t (PostV C σ s Q) E s₂ :=
  wpAny_mono h (fun _ _ hx => hx.from st) fun _ _ hx => hx
theorem Sc.var_elim {id : Str} {i : Nat} (h : S.var id i = true) : ∃ x, id = Str.ofString x ∧ S.nm.lookup x = some i ∧ (S.names.lookup id = some .local ∨ S.names.lookup id = some .cell ∨ S.names.lookup id = some .free) ∧
    (id == ("__debug__" : Str)) = false ∧ (id == ("__classdict__" : Str)) = false := by
  unfold Sc.var at h
  simp only [Bool.and_eq_true, Bool.not_eq_true', List.any_eq_true, Bool.or_eq_true, beq_iff_eq, decide_eq_true_eq] at h
  refine ob28 h ?_
  clear h
  intro p hp h1 h2 h3 h4 h5
  exact ⟨p.1, h1.symm, h2, by rcases h3 with (h3 | h3) | h3; exact .inl h3; exact .inr (.inl h3); exact .inr (.inr h3), h4, h5⟩
theorem Sc.own_elim {id : Str} {i : Nat} (h : S.own id i = true) : ∃ x, id = Str.ofString x ∧ S.nm.lookup x = some i ∧ (S.names.lookup id = some .local ∨ S.names.lookup id = some .cell) := by
  unfold Sc.own at h
  simp only [Bool.and_eq_true, List.any_eq_true, Bool.or_eq_true, beq_iff_eq, decide_eq_true_eq] at h
  refine ob29 h ?_
  clear h
  intro p hp h1 h2 h3
  exact ⟨p.1, h1.symm, h2, h3⟩
theorem Sc.glb_elim {id : Str} {x : String} (h : S.glb id x = true) : id = Str.ofString x ∧ S.names.lookup id = some .globalImplicit ∧ (id == ("__debug__" : Str)) = false := by
  unfold Sc.glb at h
  simp only [Bool.and_eq_true, Bool.not_eq_true', beq_iff_eq, decide_eq_true_eq] at h
  exact ⟨h.1.1, h.1.2, h.2⟩
theorem g_at (X : CxOk C) (r : Rel C σ s.heap) : s.heap.Ns mainGlobals C.mg := X.g.keeps r.stays
theorem b_at (X : CxOk C) (r : Rel C σ s.heap) : s.heap.Ns builtinsNs C.mb := X.b.keeps r.stays
theorem zkl {id : Str} {x : String} {v : Value} {pos : Pos} {K : Value → Shared → Prop} {E : Value → Shared → Prop} (U : Sur C k md Φ S env) (r : Rel C σ s.heap) (h : S.glb id x = true) (hv : C.mg (Str.ofString x) = some v) (q : K v s) :
    wpAny C.M A (eval (.Name id pos) env) K E s := by
  refine ob16 (Sc.glb_elim h) ?_
  intro ee58
  subst ee58
  intro h1 h2
  refine Name_function_global U.ev.kind (by rw [U.ev.kindOf]; exact h1) (loadGlobal_global (mg := C.mg) ?_ hv q) h2
  rw [U.ev.globals]; exact g_at U.X r
theorem ze7 {id : Str} {x : String} {v : Value} {pos : Pos} {K : Value → Shared → Prop} {E : Value → Shared → Prop} (U : Sur C k md Φ S env) (r : Rel C σ s.heap) (h : S.glb id x = true) (hv : (x, v) ∈ bNames) (q : K v s) :
    wpAny C.M A (eval (.Name id pos) env) K E s := by
  refine ob16 (Sc.glb_elim h) ?_
  intro ee59
  subst ee59
  intro h1 h2
  refine ob14 (U.X.bn x v hv) ?_
  intro h3 h4
  refine Name_function_global U.ev.kind (by rw [U.ev.kindOf]; exact h1) (loadGlobal_builtin (mg := C.mg) (mb := C.mb) ?_ h3 ?_ h4 q) h2
  · rw [U.ev.globals]; exact g_at U.X r
  · rw [U.ev.builtins]; exact b_at U.X r
theorem zh1 (d : Dyn C k md S A env ρ σ s) : A.units + 16 < cLine := by
  have := d.a.units
  have e : cLine = 9000 ∨ 9000 ≤ cLine := by decide
  rcases e with e | e <;> lia
theorem zjR {u : V} {x : Value} {b : Bool} {K : Value → Shared → Prop} {E : Value → Shared → Prop} (hu : VR s.heap u x) (e : Mine.truthy σ u = some b) (h : K (.bool (!b)) s) : wpAny C.M A (unaryOp .Not x) K E s := by
  unfold unaryOp
  refine wpAny_holding ?_
  dsimp only
  rw [if_pos (by decide)]
  exact wpAny_bind (zeJ hu e (wpAny_pure h))
/- simple expressions -/
theorem zmL : EvP C .none := by
  intro k md Φ S x env A ρ σ s Q X U d hm h
  dsimp only [zaG] at h
  refine cME hm ?_
  intro c kk p hm
  cases of_decide_eq_true hm
  · exact wpAny_Constant_none (.now d.r h .none)
theorem zoc : EvP C .tt := by
  intro k md Φ S x env A ρ σ s Q X U d hm h
  dsimp only [E_tt] at h
  refine cME hm ?_
  intro c kk p hm
  cases of_decide_eq_true hm
  · exact wpAny_Constant_bool (.now d.r h .bool)
theorem zoe : EvP C .ff := by
  intro k md Φ S x env A ρ σ s Q X U d hm h
  dsimp only [E_ff] at h
  refine cME hm ?_
  intro c kk p hm
  cases of_decide_eq_true hm
  · exact wpAny_Constant_bool (.now d.r h .bool)
theorem znM {i : Int} : EvP C (.int i) := by
  intro k md Φ S x env A ρ σ s Q X U d hm h
  dsimp only [za2] at h
  refine cME hm ?_
  intro c kk p hm
  · cases of_decide_eq_true hm
    exact wpAny_Constant_int (.tok d.r h .int)
theorem znJ {i : String} : EvP C (.str i) := by
  intro k md Φ S x env A ρ σ s Q X U d hm h
  dsimp only [za0] at h
  refine cME hm ?_
  intro c kk p hm
  · cases of_decide_eq_true hm
    exact wpAny_Constant_str (.tok d.r h .str)
theorem znI {i : Nat} : EvP C (.var i) := by
  intro k md Φ S x env A ρ σ s Q X U d hm h
  dsimp only [zaZ] at h
  refine nmME hm ?_
  intro id p hm
  · refine ob30 (Sc.var_elim hm) ?_
    intro x ee60
    subst ee60
    intro h1 h2 h3 h4
    refine ob7 (za6 h) ?_
    intro v hv q
    refine zmw U.ev.toEnvOk d.l h1 hv ?_ h3 h4 fun u hu => .now d.r q hu
    rw [U.ev.kindOf]; exact h2
theorem zmQ {g : String} : EvP C (.glob g) := by
  intro k md Φ S x env A ρ σ s Q X U d hm h
  dsimp only [zaL] at h
  refine nmME hm ?_
  intro id p hm
  · refine ob7 (za6 h) ?_
    intro i hi q
    refine ob12 (U.X.glob g i hi) ?_
    intro t ht
    exact zkl U d.r hm ht (.now d.r q .int)
theorem znP {op : Operator} {a b : Ex} (ha : EvP C a) (hb : EvP C b) : EvP C (.bin op a b) := by
  intro k md Φ S x env A ρ σ s Q X U d hm h
  dsimp only [za4] at h
  refine biME hm ?_
  intro l op' r p hm
  · simp only [Bool.and_eq_true, decide_eq_true_eq] at hm
    refine ob31 hm ?_
    clear hm
    intro ee61
    subst ee61
    intro h1 h2
    refine wpAny_BinOp (seqE (.refl d.r) (ha U d h1 h) fun x u σ₁ s₁ q hu _ st => seqE st (hb U (d.step st) h2 q) fun y v σ₂ s₂ q hv st₂ st' => fin st' ?_)
    exact znU st'.rel (st₂.vr hu) hv q
theorem znL {a : Ex} (ha : EvP C a) : EvP C (.neg a) := by
  intro k md Φ S x env A ρ σ s Q X U d hm h
  dsimp only [za1] at h
  refine unME hm ?_
  intro op l p hm
  simp only [Bool.and_eq_true, decide_eq_true_eq] at hm
  refine ob14 hm ?_
  clear hm
  intro ee62
  subst ee62
  intro hm
  · refine wpAny_UnaryOp (seqE (.refl d.r) (ha U d hm h) fun x u σ₁ s₁ q hu _ st => fin st ?_)
    refine ob7 (zby q) ?_
    intro i ee63
    subst ee63
    intro q
    refine ob12 hu.int_of ?_
    intro t ee64
    subst ee64
    exact neg_int (.tok st.rel q .int)
theorem znK {a : Ex} (ha : EvP C a) : EvP C (.not a) := by
  intro k md Φ S x env A ρ σ s Q X U d hm h
  dsimp only [zaU] at h
  refine unME hm ?_
  intro op l p hm
  simp only [Bool.and_eq_true, decide_eq_true_eq] at hm
  refine ob14 hm ?_
  clear hm
  intro ee65
  subst ee65
  intro hm
  · refine wpAny_UnaryOp (seqE (.refl d.r) (ha U d hm h) fun x u σ₁ s₁ q hu _ st => fin st ?_)
    refine ob7 (za6 q) ?_
    intro b hb q
    exact zjR hu hb (.now st.rel q .bool)
theorem znO {op : CmpOp} {a b : Ex} (ha : EvP C a) (hb : EvP C b) : EvP C (.cmp op a b) := by
  intro k md Φ S x env A ρ σ s Q X U d hm h
  dsimp only [zaV] at h
  refine znR hm ?_
  intro l op' r p hm
  · simp only [Bool.and_eq_true, decide_eq_true_eq] at hm
    refine ob31 hm ?_
    clear hm
    intro ee66
    subst ee66
    intro h1 h2
    refine wpAny_Compare1 (seqE (.refl d.r) (ha U d h1 h) fun x u σ₁ s₁ q hu _ st => seqE st (hb U (d.step st) h2 q) fun y v σ₂ s₂ q hv st₂ st' => fin st' ?_) (zeE h2)
    refine ob7 (za6 q) ?_
    intro c hc q
    exact zfO U.X.nolimit (zh1 d) st'.rel (st₂.vr hu) hv hc fun t => .tok st'.rel q .bool
theorem zn0 {e : Ex} {x : Expr} (he : EvP C e) (U : Sur C k md Φ S env) (d : Dyn C k md S A env ρ σ s) (hm : za8 S e x = true) (h : wpE Φ md e ρ σ Q X) (hq : ∀ V σ', Q V σ' → ∃ b, Mine.truthy σ' V = some b)
    (hx : isTrue x env (eval x env) = (do let v ← eval x env; standAt x.pos; holding [v] (PySem.truthy v))) : wpAny C.M A (isTrue x env (eval x env)) (zjr C σ s Q) (PostX C σ s X) s := by
  refine wpAny_isTrue_value (seqE (.refl d.r) (he U d hm h) fun x u σ₁ s₁ q hu _ st => ?_) hx
  refine ob12 (hq _ _ q) ?_
  intro b hb
  exact zeJ hu hb ⟨u, σ₁, q, hb, st⟩
theorem znf {a : Ex} (ha : TrP C a) : TrP C (.not a) := by
  intro k md Φ S x env A ρ σ s Q X U d hm h hq
  dsimp only [zaU] at h
  refine unME hm ?_
  intro op l p hm
  simp only [Bool.and_eq_true, decide_eq_true_eq] at hm
  refine ob14 hm ?_
  clear hm
  intro ee67
  subst ee67
  intro hm
  · refine wpAny_isTrue_Not (seqB (.refl d.r) (ha U d hm h fun V σ' q => ?_) fun b V σ₁ s₁ q hb _ st => ?_)
    · refine ob7 (za6 q) ?_
      intro b hb _
      exact ⟨b, hb⟩
    · refine ob7 (za6 q) ?_
      intro b' hb' q
      rw [hb] at hb'; cases hb'
      exact ⟨.bool (!b), σ₁, q, rfl, st⟩
theorem zng {op : CmpOp} {a b : Ex} (ha : EvP C a) (hb : EvP C b) : TrP C (.cmp op a b) := by
  intro k md Φ S x env A ρ σ s Q X U d hm h hq
  dsimp only [zaV] at h
  refine znR hm ?_
  intro l op' r p hm
  · simp only [Bool.and_eq_true, decide_eq_true_eq] at hm
    refine ob31 hm ?_
    clear hm
    intro ee68
    subst ee68
    intro h1 h2
    refine wpAny_isTrue_Compare1 (seqE (.refl d.r) (ha U d h1 h) fun x u σ₁ s₁ q hu _ st => seqE st (hb U (d.step st) h2 q) fun y v σ₂ s₂ q hv st₂ st' => ?_) (zeE h2)
    refine ob7 (za6 q) ?_
    intro c hc q
    exact zfO U.X.nolimit (zh1 d) st'.rel (st₂.vr hu) hv hc fun t => wpAny_truthy_bool ⟨.bool c, σ₂, q, rfl, st'.trans (.toks st'.rel t)⟩
theorem zmS {o₁ o₂ : CmpOp} {a b c : Ex} (ha : EvP C a) (hb : EvP C b) (hc : EvP C c) : EvP C (.cmp2 o₁ o₂ a b c) := by
  intro k md Φ S x env A ρ σ s Q X U d hm h
  dsimp only [zaC] at h
  refine znQ hm ?_
  intro l p₁ p₂ m r p hm
  · simp only [Bool.and_eq_true, decide_eq_true_eq] at hm
    refine ob32 hm ?_
    clear hm
    intro ee69
    subst ee69
    intro ee70
    subst ee70
    intro h1 h2 h3
    refine Compare_chain (seqE (.refl d.r) (ha U d h1 h) fun x u σ₁ s₁ q hu _ st => chain_link (seqE st (hb U (d.step st) h2 q) fun y v σ₂ s₂ q hv st₂ st' => ?_)) (by show behindInMarks _ _ = false; exact zeE h3)
    refine ob7 (za6 q) ?_
    intro r hr q
    refine zfO U.X.nolimit (zh1 d) st'.rel (st₂.vr hu) hv hr fun t => wpAny_truthy_bool ?_
    have st3 := st'.trans (.toks st'.rel t)
    cases r with
    | false => exact ⟨.bool false, σ₂, q, .bool, st3⟩
    | true =>
      refine chain_last (seqE st3 (hc U (d.step st3) h3 q) fun z w σ₃ s₃ q hw st₃ st' => fin st' ?_)
      refine ob7 (za6 q) ?_
      intro r hr q
      exact zfO U.X.nolimit (zh1 d) st'.rel (st₃.vr (Step.vr (.toks (D := No) st3.rel t) hv)) hw hr fun t => .tok st'.rel q .bool
theorem zl3 {o₁ o₂ : CmpOp} {a b c : Ex} (ha : EvP C a) (hb : EvP C b) (hc : EvP C c) : TrP C (.cmp2 o₁ o₂ a b c) := by
  intro k md Φ S x env A ρ σ s Q X U d hm h hq
  dsimp only [zaC] at h
  refine znQ hm ?_
  intro l p₁ p₂ m r p hm
  · simp only [Bool.and_eq_true, decide_eq_true_eq] at hm
    refine ob32 hm ?_
    clear hm
    intro ee71
    subst ee71
    intro ee72
    subst ee72
    intro h1 h2 h3
    refine isTrue_chain (seqE (.refl d.r) (ha U d h1 h) fun x u σ₁ s₁ q hu _ st => test_link (seqE st (hb U (d.step st) h2 q) fun y v σ₂ s₂ q hv st₂ st' => ?_)) (by show behindInMarks _ _ = false; exact zeE h3)
    refine ob7 (za6 q) ?_
    intro r hr q
    refine zfO U.X.nolimit (zh1 d) st'.rel (st₂.vr hu) hv hr fun t => wpAny_truthy_bool ?_
    have st3 := st'.trans (.toks st'.rel t)
    cases r with
    | false => exact ⟨.bool false, σ₂, q, rfl, st3⟩
    | true =>
      refine test_last (seqE st3 (hc U (d.step st3) h3 q) fun z w σ₃ s₃ q hw st₃ st' => ?_)
      refine ob7 (za6 q) ?_
      intro r hr q
      exact zfO U.X.nolimit (zh1 d) st'.rel (st₃.vr (Step.vr (.toks (D := No) st3.rel t) hv)) hw hr fun t => wpAny_truthy_bool ⟨.bool r, σ₃, q, rfl, st'.trans (.toks st'.rel t)⟩
theorem evs_nil : EvsP C .nil := by
  intro k md Φ S xs env A ρ σ s Q X pos U d hm h
  cases xs with
  | nil => simp only [zaB, zal] at h; exact args_nil ⟨[], σ, h, .nil, .refl d.r⟩
  | cons _ _ => simp [zbQ, zbR, zbS, zbT] at hm
theorem zlq {e : Ex} {es : Exs} (he : EvP C e) (hs : EvsP C es) : EvsP C (.cons e es) := by
  intro k md Φ S xs env A ρ σ s Q X pos U d hm h
  cases xs with
  | nil => simp [zbQ, zbR, zbS, zbT] at hm
  | cons x xs =>
    simp only [zbQ, zbR, zbS, zbT, Bool.and_eq_true] at hm; simp only [zaB, zal] at h
    refine args_cons (seqE (.refl d.r) (he U d hm.1 h) fun y u σ₁ s₁ q hu _ st => seqL st (hs U (d.step st) hm.2 q) fun ys vs σ₂ s₂ q hv st₂ st' => ⟨_, σ₂, q, .cons (st₂.vr hu) hv, st'⟩) (zbU hm.1)
theorem zgx {pos : Pos} : ∀ {es : Exs} {xs : List Expr}, zbu S es xs = true → (backTo pos (starEach xs env)).any (·.1) = false
  | .nil, [], _ => rfl
  | .cons e es, x :: xs, h => by
    simp only [zbQ, zbR, zbS, zbT, Bool.and_eq_true] at h
    rw [zbU h.1]
    show (false || (backTo pos (starEach xs env)).any (·.1)) = false
    rw [zgx (es := es) h.2]; rfl
  | .nil, _ :: _, h => by simp [zbQ, zbR, zbS, zbT] at h
  | .cons _ _, [], h => by simp [zbQ, zbR, zbS, zbT] at h
theorem zkD {es : Exs} {xs : List Expr} {f : Value} {pos : Pos} {K : Args → Shared → Prop} {E : Value → Shared → Prop} (hm : zbu S es xs = true) (h : wpAny C.M A (spliced (backTo pos (starEach xs env))) (fun vs s' => K ⟨vs, []⟩ s') E s) :
    wpAny C.M A (evalArgs f true (backTo pos (starEach xs env)) []) K E s := by
  cases xs with
  | nil =>
    unfold evalArgs
    first
      | exact wpAny_bind (wpAny_mono h (fun vs s' h' => wpAny_holding (wpAny_bind (wpAny_pure (wpAny_bind (wpAny_pure (wpAny_pure h')))))) fun _ _ e => e)
      | exact wpAny_bind (wpAny_mono h (fun vs s' h' => wpAny_bind (wpAny_pure (wpAny_holding (wpAny_bind (wpAny_pure (wpAny_bind (wpAny_pure (wpAny_pure h')))))))) fun _ _ e => e)
  | cons x xs =>
    cases es with
    | nil => simp [zbQ, zbR, zbS, zbT] at hm
    | cons e es =>
      simp only [zbQ, zbR, zbS, zbT, Bool.and_eq_true] at hm
      rw [zbU hm.1] at h ⊢
      exact evalArgs_plain h
theorem Dyn.run (d : Dyn C k md S A env ρ σ s) : ARun C k md A σ s.heap := by
  refine lift fun gg back => ?_
  obtain ⟨a1, a2, a3, a4⟩ := d.a
  refine back ?_
  clear back gg
  exact ⟨a1, a2, by lia, by lia⟩
theorem zmT {f : String} {es : Exs} (hs : EvsP C es) : EvP C (.call f es) := by
  intro k md Φ S x env A ρ σ s Q X U d hm h
  dsimp only [zaM] at h
  replace h := zd7 h
  refine ncME hm ?_
  intro id p xs pos hm
  · simp only [Bool.and_eq_true] at hm
    refine ob12 (U.ca.dom _ _ h.1) ?_
    intro a ha
    refine ob33 (U.X.fnG f a ha) ?_
    intro hg o fd ho hd
    refine Call_Name rfl (zkl U d.r hm.1 hg (callWith_function (o := o) (fd := fd) (zkD hm.2 (seqL (.refl d.r) (hs U d hm.2 h.2) fun xs vs σ₁ s₁ q hv _ st => ⟨⟨st.rel.stays a o ho, hd⟩, ?_⟩))))
    refine wpAny_mono (wpAny_call (U.ca.run ha (d.step st).run st.rel hv q)) (fun _ _ hx => hx.from st) fun _ _ hx => hx.from st
theorem zmM {o : Ex} {name : String} {es : Exs} (ho : EvP C o) (hs : EvsP C es) : EvP C (.meth o name es) := by
  intro k md Φ S x env A ρ σ s Q X U d hm h
  dsimp only [zaH] at h
  refine acME hm ?_
  intro x id apos xs pos hm
  · simp only [Bool.and_eq_true, decide_eq_true_eq] at hm
    refine ob34 hm ?_
    clear hm
    intro ee73
    subst ee73
    intro hline hb hlen h1 h2
    rw [arm_eval_Call, zh2 hb]
    refine wpAny_bind (seqE (.refl d.r) (ho U d h1 h) fun y u σ₁ s₁ q hu _ st => wpAny_bind (wpAny_standAt ?_))
    refine lift fun gg back => ?_
    obtain ⟨a, c, dd, fs, rfl, ha, hd, ⟨hl, hh⟩, q⟩ := zdW q
    refine ob12 (U.ca.dom _ _ hh) ?_
    intro fa hfa
    cases hu.ref_of
    refine ob7 (st.rel.tr a _ ha) ?_
    intro Cl hcl hi
    refine back ?_
    clear back gg
    have hne : c ≠ "" := fun e => by rw [e, U.X.clsNe] at hcl; cases hcl
    refine ob35 (U.X.meth c name fa Cl hfa hne hcl) ?_
    intro _ _ _ ob fd hob hdat
    have hform : methodCallForm (xs.length + ([] : List Keyword).length) (backTo pos (starEach xs env)) (backToKw pos (keywordEach [] env)) = true := by
      unfold methodCallForm
      have := zgx (env := env) (pos := pos) (es := es) h2
      have h0 : (backTo pos (starEach xs env)).all (fun x => !x.1) = true := by
        rw [List.all_eq_true]
        intro y hy
        rw [List.any_eq_false] at this
        simpa using this y hy
      rw [h0]
      simp only [List.length_nil, Nat.add_zero, Bool.true_and, Bool.and_eq_true, decide_eq_true_eq]
      exact ⟨rfl, hlen⟩
    have hpos : methodCallPos true x env apos pos = pure pos := by unfold methodCallPos; rw [hline]; rfl
    unfold methodCall
    rw [hform]
    refine wpAny_bind (wpAny_holding ?_)
    show wpAny _ _ (getMethod _ _ _) _ _ _
    refine zg9 (Cl := Cl) U.X st.rel ha hd hl hfa hne ?_
    refine wpAny_bind (wpAny_of_eq hpos ?_)
    refine callWith_function (o := ob) (fd := fd) (zkD h2 (seqL st (hs U (d.step st) h2 q) fun xs vs σ₂ s₂ q hv st₂ st' => ⟨⟨st'.rel.stays fa ob hob, hdat⟩, ?_⟩))
    exact wpAny_mono (wpAny_call (U.ca.run hfa (d.step st').run st'.rel (.cons .ref hv) q)) (fun _ _ hx => hx.from st') fun _ _ hx => hx.from st'
theorem zgt {es : Exs} {xs : List Expr} {Cl : Addr} {pos : Pos} {K : Value → Shared → Prop} {E : Value → Shared → Prop} (hK : C.K.In s.heap) (hk : keepIn C.K (.ref Cl) = true) (hm : zbu S es xs = true)
    (h : wpAny C.M A (spliced (backTo pos (starEach xs env))) (fun vs s₁ => C.K.In s₁.heap ∧ wpAny C.M A (call (.ref Cl) vs) K E s₁) E s) : wpAny C.M A (callWith pos (.ref Cl) [] (backTo pos (starEach xs env)) []) K E s := by
  cases xs with
  | nil => exact callWith_K0 hK hk (fun Γ p hΓ => ((h Γ p hΓ : C.K.In s.heap ∧ wpAny C.M A (call (.ref Cl) []) K E s)).2 Γ p hΓ)
  | cons x xs =>
    cases es with
    | nil => simp [zbQ, zbR, zbS, zbT] at hm
    | cons e es =>
      have hm' := hm
      simp only [zbQ, zbR, zbS, zbT, Bool.and_eq_true] at hm
      exact callWith_K hK hk h (zbU hm.1) (zgx hm.2)
theorem zmN {c : String} {es : Exs} (hs : EvsP C es) : EvP C (.make c es) := by
  intro k md Φ S x env A ρ σ s Q X U d hm h
  dsimp only [zaI] at h
  replace h := zd7 h
  refine ncME hm ?_
  intro id p xs pos hm
  · simp only [Bool.and_eq_true, decide_eq_true_eq] at hm
    refine lift fun gg back => ?_
    refine ob12 (U.ca.dom _ _ h.1) ?_
    intro fa hfa
    refine ob31 hm ?_
    clear hm
    intro hne hg hmm
    refine ob30 (U.X.made c fa hfa hne) ?_
    intro Cl hcl hkp hmk hfi hty
    refine back ?_
    clear back gg
    refine Call_Name rfl (zkl U d.r hg (U.X.clsG c Cl hcl) (zgt (zfI U.X d.r) hkp hmm (seqL (.refl d.r) (hs U d hmm h.2) fun xs vs σ₁ s₁ q hv _ st => ⟨zfI U.X st.rel, ?_⟩)))
    refine lift fun gg back => ?_
    obtain ⟨hh, g, dr, tk, os⟩ := s₁
    refine back ?_
    clear back gg
    have hK : C.K.In hh := zfI U.X st.rel
    refine wpAny_call (make_core (makes_of hK hmk) (looks_findIn hK hfi) (fun self => bind_fn hK self hty) (.inl rfl) ?_)
    have hsz : (hh.push emptyDict).objs.size = hh.objs.size + 1 := Heap.size_push ..
    have st1 : Step C No σ₁ ⟨hh, g, dr, tk, os⟩ (σ₁.upd hh.objs.size (.ns [])) ⟨hh.push emptyDict, g, dr, tk, os⟩ :=
      Step.alloc (s := ⟨hh, g, dr, tk, os⟩) (t := tk) st.rel zbd zbn (Nat.le_refl _) ⟨[], 0, Heap.get?_push_size _ rfl, trivial, .nil⟩
    have st2 : Step C No (σ₁.upd hh.objs.size (.ns [])) ⟨hh.push emptyDict, g, dr, tk, os⟩ ((σ₁.upd hh.objs.size (.ns [])).upd (hh.objs.size + 1) (.inst c hh.objs.size)) ⟨(hh.push emptyDict).push (instObj Cl hh.objs.size), g, dr, tk, os⟩ :=
      Step.alloc (s := ⟨hh.push emptyDict, g, dr, tk, os⟩) (t := tk) st1.rel zbd zbn (by rw [hsz]; exact Nat.le_refl _) ⟨Cl, hcl, by rw [← hsz]; exact Heap.get?_push_size _ rfl⟩
    have st12 := st1.trans st2
    have hq := q (hh.objs.size + 1) hh.objs.size (st.rel.none_of_ge (Nat.le_succ _)) (st.rel.none_of_ge (Nat.le_refl _)) (Nat.succ_ne_self _)
    have a' := (d.step (st.trans st12)).a
    have ar : ARun C k md (A.under (.builtin "type.__call__" ⟨.ref Cl :: xs, []⟩)) ((σ₁.upd hh.objs.size (.ns [])).upd (hh.objs.size + 1) (.inst c hh.objs.size)) ((hh.push emptyDict).push (instObj Cl hh.objs.size)) := by
      refine lift fun gg back => ?_
      obtain ⟨a1, a2, a3, a4⟩ := a'
      refine back ?_
      clear back gg
      refine ⟨a1, a2, ?_, ?_⟩
      · show A.depth + 1 + 3 * k + 1 < 990; lia
      · show A.units + (1 + 3 * (Code.builtin "type.__call__" ⟨.ref Cl :: xs, []⟩).frames) + 40 * k + 10 < 9000
        have : (Code.builtin "type.__call__" ⟨.ref Cl :: xs, []⟩).frames = 0 := by rfl
        lia
    refine codeAny_mono (U.ca.run hfa ar st12.rel (.cons .ref (st12.vrs hv)) hq) fun r s' z => ?_
    rcases r with e | (v | _ | _ | _)
    · exact z.from (st.trans st12)
    all_goals first | exact z.elim | skip
    refine ob36 z ?_
    clear z
    intro V σ' ee74
    subst ee74
    intro q' hv' st'
    cases hv'.none_of
    exact ⟨rfl, .ref _, σ', q', .ref, (st.trans st12).trans st'⟩
theorem zmV {o : Ex} {name : String} (ho : EvP C o) : EvP C (.attr o name) := by
  intro k md Φ S x env A ρ σ s Q X U d hm h
  dsimp only [zaN] at h
  refine atME hm ?_
  intro y id p hm
  · simp only [Bool.and_eq_true, decide_eq_true_eq] at hm
    refine ob31 hm ?_
    clear hm
    intro ee75
    subst ee75
    intro hb h1
    rw [arm_eval_Attribute, zh2 hb]
    refine wpAny_bind (seqE (.refl d.r) (ho U d h1 h) fun y u σ₁ s₁ q hu _ st => wpAny_bind (wpAny_standAt (wpAny_bind (wpAny_holding ?_))))
    exact zna U.X st.rel hu (fun c => U.ca.fld c name) q fun z w t q hz => wpAny_bind (wpAny_letTemporaryGo (wpAny_pure (PostV.from st (.tok st.rel q hz))))
theorem znN {a b : Ex} (ha : EvP C a) (hb : EvP C b) : EvP C (.idx a b) := by
  intro k md Φ S x env A ρ σ s Q X U d hm h
  dsimp only [za3] at h
  refine suME hm ?_
  intro y z p hm
  · simp only [Bool.and_eq_true] at hm
    refine Subscript_ (seqE (.refl d.r) (ha U d hm.1 h) fun x u σ₁ s₁ q hu _ st => seqE st (hb U (d.step st) hm.2 q) fun y v σ₂ s₂ q hv st₂ st' => fin st' ?_)
    exact zmE (K := fun z => Q z σ₂) st'.rel (st₂.vr hu) hv q fun z w q hz => .now st'.rel q hz
theorem evo_none : EvoP C .none := by
  intro k md Φ S x env A ρ σ s Q X U d hm h
  cases x with
  | none => simp only [zaA, zaz] at h; exact wpAny_pure (.now d.r h .none)
  | some _ => simp [zmu, zmt, zms, zmr] at hm
theorem zlr {e : Ex} (he : EvP C e) : EvoP C (.some e) := by
  intro k md Φ S x env A ρ σ s Q X U d hm h
  cases x with
  | none => simp [zmu, zmt, zms, zmr] at hm
  | some x => simp only [zaA, zaz] at h; simp only [zmu, zmt, zms, zmr] at hm; exact he U d hm h
theorem zlt {a : Ex} {lo hi : ExO} (ha : EvP C a) (hlo : EvoP C lo) (hhi : EvoP C hi) : EvP C (.slice a lo hi) := by
  intro k md Φ S x env A ρ σ s Q X U d hm h
  dsimp only [zan] at h
  refine znp hm ?_
  intro y l u q p hm
  · simp only [Bool.and_eq_true] at hm
    refine ob31 hm ?_
    clear hm
    intro h1 h2 h3
    refine Subscript_ (seqE (.refl d.r) (ha U d h1 h) fun x u σ₁ s₁ q hu _ st => wpAny_Slice (seqE st (hlo U (d.step st) h2 q) fun y v σ₂ s₂ q hv st₂ st' => seqE st' (hhi U (d.step st') h3 q) fun z w σ₃ s₃ q hw st₃ st'' => ?_))
    rw [evalPart_none]
    exact wpAny_pure (fin st'' (zk2 st''.rel (st₃.vr (st₂.vr hu)) (st₃.vr hv) hw q))
theorem zmO {es : Exs} (hs : EvsP C es) : EvP C (.list es) := by
  intro k md Φ S x env A ρ σ s Q X U d hm h
  dsimp only [zaJ] at h
  refine liME hm ?_
  intro xs p hm
  · refine wpAny_List (seqL (.refl d.r) (hs U d hm h) fun xs vs σ₁ s₁ q hv _ st => ?_)
    have e := hv.length
    exact ⟨zd4 (by lia), .from st (zdL (n := 0) (t := s₁.toks) st.rel q.2 zbd zbn (Nat.le_refl _) (Heap.get?_push_size _ rfl) hv q.1)⟩
theorem zls {es : Exs} (hs : EvsP C es) : EvP C (.tuple es) := by
  intro k md Φ S x env A ρ σ s Q X U d hm h
  dsimp only [zam] at h
  refine tuME hm ?_
  intro xs kk p hm
  · refine wpAny_Tuple (seqL (.refl d.r) (hs U d hm h) fun xs vs σ₁ s₁ q hv _ st => ?_)
    have e := hv.length
    refine ⟨zd4 (by lia), .from st ⟨.tup vs, σ₁, q.2, .tup (n := 0) (Heap.get?_push_size _ rfl) (hv.keep fun b o e _ => zbd _ _ e), .grow (t := s₁.toks) st.rel zbd zbn⟩⟩
theorem zlb (h : Heap) : KR C.prog C.w (h.push { cls := .type "dict", data := .dict #[] }) h.objs.size [] :=
  .inl ⟨[], rfl, _, #[], 0, Heap.get?_push_size _ rfl, ⟨rfl, rfl, rfl⟩, rfl, fun _ h => by simp at h, .nil, .nil⟩
theorem zlu : EvP C .dict0 := by
  intro k md Φ S x env A ρ σ s Q X U d hm h
  dsimp only [zao] at h
  refine diME hm ?_
  intro ks vs p hm
  refine l0E hm ?_
  intro hm
  refine l0E hm ?_
  intro hm
  · exact wpAny_Dict_empty ⟨.ref _, _, h _ (d.r.none_of_ge (Nat.le_refl _)), .ref, .alloc (t := s.toks) d.r zbd zbn (Nat.le_refl _) ⟨zlb _, Nat.zero_le _⟩⟩
theorem znt {id : String} {x : Expr} {e : Ex} {pos : Pos} {K : Value → Shared → Prop} {E : Value → Shared → Prop} (hm : za8 S e x = true) (h : wpAny C.M A (eval x env) (fun v s₁ => wpAny C.M A (call (.builtin id) [v]) K E s₁) E s) :
    wpAny C.M A (callWith pos (.builtin id) [] (backTo pos (starEach [x] env)) []) K E s := by
  rw [zbU hm]
  exact callWith_builtin (by rfl) (evalArgs_plain (spliced_cons (wpAny_mono h (fun v s₁ h₁ => spliced_nil h₁) fun _ _ e => e)))
theorem zlN {id : String} {x : Expr} {e : Ex} {pos : Pos} {K : Value → Shared → Prop} {E : Value → Shared → Prop} (hm : za8 S e x = true) (h : wpAny C.M A (eval x env) (fun v s₁ => wpAny C.M A (call (.type id) [v]) K E s₁) E s) :
    wpAny C.M A (callWith pos (.type id) [] (backTo pos (starEach [x] env)) []) K E s := by
  rw [zbU hm]
  exact PySem.callWith_type (by rfl) (evalArgs_plain (spliced_cons (wpAny_mono h (fun v s₁ h₁ => spliced_nil h₁) fun _ _ e => e)))
theorem zof {f : B1} {e : Ex} (he : EvP C e) : EvP C (.b1 f e) := by
  intro k md Φ S x env A ρ σ s Q X U d hm h
  dsimp only [E_b1] at h
  refine ncME hm ?_
  intro nid np xs pos hm
  refine l1E hm ?_
  intro x hm
  · simp only [Bool.and_eq_true] at hm
    have hb : ∀ {id : String}, (zkB f, Value.builtin id) ∈ bNames → (∀ v V σ₁ s₁, b1V md f V σ₁ Q → VR s₁.heap V v → Step C No σ s σ₁ s₁ → wpAny C.M A (call (.builtin id) [v]) (PostV C σ₁ s₁ Q) (PostX C σ s X) s₁) → wpAny C.M A (eval (.Call (.Name nid np) [x] [] pos) env) (PostV C σ s Q) (PostX C σ s X) s :=
      fun {id} hin go => Call_Name rfl (ze7 U d.r hm.1 hin (znt hm.2 (seqE (.refl d.r) (he U d hm.2 h) fun v V σ₁ s₁ q hv _ st => fin st (go v V σ₁ s₁ q hv st))))
    have ht : ∀ {id : String}, (zkB f, Value.type id) ∈ bNames → (∀ v V σ₁ s₁, b1V md f V σ₁ Q → VR s₁.heap V v → Step C No σ s σ₁ s₁ → wpAny C.M A (call (.type id) [v]) (PostV C σ₁ s₁ Q) (PostX C σ s X) s₁) → wpAny C.M A (eval (.Call (.Name nid np) [x] [] pos) env) (PostV C σ s Q) (PostX C σ s X) s :=
      fun {id} hin go => Call_Name rfl (ze7 U d.r hm.1 hin (zlN hm.2 (seqE (.refl d.r) (he U d hm.2 h) fun v V σ₁ s₁ q hv _ st => fin st (go v V σ₁ s₁ q hv st))))
    cases f with
    | len => exact hb (id := "len") (List.mem_of_getElem? (i := 0) rfl) fun v V σ₁ s₁ q hv st => PostV.len st.rel hv q
    | list => exact ht (id := "list") (List.mem_of_getElem? (i := 1) rfl) fun v V σ₁ s₁ q hv st => zj0 st.rel hv q
    | sorted => exact hb (id := "sorted") (List.mem_of_getElem? (i := 2) rfl) fun v V σ₁ s₁ q hv st => zjH U.X.nolimit (fun h => d.a.handled h) st.rel hv q
    | any => exact hb (id := "any") (List.mem_of_getElem? (i := 5) rfl) fun v V σ₁ s₁ q hv st => znW (d.a.handled q.1) st.rel hv q.2
    | max => exact hb (id := "max") (List.mem_of_getElem? (i := 9) rfl) fun v V σ₁ s₁ q hv st => zny (d.a.handled q.1) st.rel hv q.2
theorem znd {t : Ty} {c : Value} (h : tyV t = some c) : (zlK t, c) ∈ bNames := by
  cases t with
  | int => cases h; exact List.mem_of_getElem? (i := 3) rfl
  | bool => cases h; exact List.mem_of_getElem? (i := 14) rfl
  | tuple => cases h; exact List.mem_of_getElem? (i := 6) rfl
  | list => cases h; exact List.mem_of_getElem? (i := 1) rfl
  | str => cases h; exact List.mem_of_getElem? (i := 15) rfl
theorem zmP {e : Ex} {t : Ty} (he : EvP C e) : EvP C (.isin e t) := by
  intro k md Φ S x env A ρ σ s Q X U d hm h
  dsimp only [zaK] at h
  refine ncME hm ?_
  intro id p xs pos hm
  refine l2E hm ?_
  intro x z hm
  refine nmME hm ?_
  intro id' p' hm
  · simp only [Bool.and_eq_true] at hm
    refine ob31 hm ?_
    clear hm
    intro h0 h1 h2
    refine Call_Name rfl (ze7 (v := .builtin "isinstance") U d.r h0 (List.mem_of_getElem? (i := 11) rfl) ?_)
    rw [zbU h2]
    refine callWith_builtin (by rfl) (evalArgs_plain (spliced_cons (seqE (.refl d.r) (he U d h2 h) fun x u σ₁ s₁ q hu _ st => ?_)))
    show wpAny _ _ (spliced ((false, eval (.Name id' p') env) :: [])) _ _ _
    refine spliced_cons ?_
    refine ob7 (za6 q) ?_
    intro b hb q
    obtain ⟨c, hc⟩ : ∃ c, tyV t = some c := by cases t <;> exact ⟨_, rfl⟩
    exact ze7 U st.rel h1 (znd hc) (spliced_nil (zmF st.rel hu hc hb fun tk => .from st (.tok st.rel q .bool)))
/- and, or -/
noncomputable def BoP (C : Cx) (es : Exs) : Prop := ∀ {k : Nat} {md : Bool} {Φ : Calls} {S : Sc} {xs : List Expr} {env : Env} {A : Around} {ρ : Loc} {σ : Store} {s : Shared} {Q : V → Store → Prop} {X : XP} {pos : Pos} {isAnd : Bool},
  Sur C k md Φ S env → Dyn C k md S A env ρ σ s → zbu S es xs = true → zeo Φ md isAnd es ρ σ Q X → wpAny C.M A (boolOp pos (if isAnd then .And else .Or) (evalEach xs env)) (PostV C σ s Q) (PostX C σ s X) s
noncomputable def BtP (C : Cx) (es : Exs) : Prop := ∀ {k : Nat} {md : Bool} {Φ : Calls} {S : Sc} {xs : List Expr} {env : Env} {A : Around} {ρ : Loc} {σ : Store} {s : Shared} {Q : V → Store → Prop} {X : XP} {isAnd : Bool},
  Sur C k md Φ S env → Dyn C k md S A env ρ σ s → zbu S es xs = true → zeo Φ md isAnd es ρ σ Q X → (∀ V σ', Q V σ' → ∃ b, Mine.truthy σ' V = some b) → wpAny C.M A (allTrue (if isAnd then .And else .Or) xs env) (zjr C σ s Q) (PostX C σ s X) s
theorem bo_nil : BoP C .nil := by
  intro k md Φ S xs env A ρ σ s Q X pos isAnd U d hm h
  exact False.elim h
theorem bt_nil : BtP C .nil := by
  intro k md Φ S xs env A ρ σ s Q X isAnd U d hm h
  exact fun _ => False.elim h
theorem zm8 {e : Ex} {es : Exs} (he : EvP C e) (hs : BoP C es) : BoP C (.cons e es) := by
  intro k md Φ S xs env A ρ σ s Q X pos isAnd U d hm h
  cases xs with
  | nil => simp [zbQ, zbR, zbS, zbT] at hm
  | cons x xs =>
    simp only [zbQ, zbR, zbS, zbT, Bool.and_eq_true] at hm
    cases es with
    | nil =>
      cases xs with
      | nil => simp only [zaT, zav] at h; exact he U d hm.1 h
      | cons _ _ => simp [zbQ, zbR, zbS, zbT] at hm
    | cons e' es =>
      cases xs with
      | nil => simp [zbQ, zbR, zbS, zbT] at hm
      | cons y ys =>
        simp only [zaT, zav] at h
        show wpAny C.M A (do
          let v ← eval x env
          standAt pos
          let c ← holding [v] (PySem.truthy v)
          match (if isAnd then BoolOp.And else BoolOp.Or), c with
          | .And, false | .Or, true => pure v
          | _, _ => boolOp pos (if isAnd then .And else .Or) (evalEach (y :: ys) env)) _ _ s
        refine wpAny_bind (seqE (.refl d.r) (he U d hm.1 h) fun v V σ₁ s₁ q hv _ st => wpAny_bind (wpAny_standAt (wpAny_bind (wpAny_holding ?_))))
        refine ob7 (za6 q) ?_
        intro b hb q
        refine zeJ hv hb ?_
        have go : b = isAnd → wpAny C.M A (boolOp pos (if isAnd then .And else .Or) (evalEach (y :: ys) env)) (PostV C σ s Q) (PostX C σ s X) s₁ := fun e => by
          rw [if_pos e] at q
          exact wpAny_mono (hs U (d.step st) hm.2 q) (fun _ _ hx => hx.from st) fun _ _ hx => hx.from st
        have no : b ≠ isAnd → PostV C σ s Q v s₁ := fun e => by
          rw [if_neg e] at q
          exact ⟨V, σ₁, q, hv, st⟩
        cases isAnd <;> cases b
        · exact go rfl
        · exact wpAny_pure (no (by decide))
        · exact wpAny_pure (no (by decide))
        · exact go rfl
theorem zm5 {e : Ex} {es : Exs} (he : TrP C e) (hs : BtP C es) : BtP C (.cons e es) := by
  intro k md Φ S xs env A ρ σ s Q X isAnd U d hm h hq
  cases xs with
  | nil => simp [zbQ, zbR, zbS, zbT] at hm
  | cons x xs =>
    simp only [zbQ, zbR, zbS, zbT, Bool.and_eq_true] at hm
    show wpAny C.M A (do
      match (if isAnd then BoolOp.And else BoolOp.Or), ← isTrue x env (eval x env) with
      | .And, false => pure false
      | .Or, true => pure true
      | _, _ => allTrue (if isAnd then .And else .Or) xs env) _ _ s
    cases es with
    | nil =>
      cases xs with
      | nil =>
        simp only [zaT, zav] at h
        refine wpAny_bind (seqB (.refl d.r) (he U d hm.1 h hq) fun b V σ₁ s₁ q hb _ st => ?_)
        cases isAnd <;> cases b <;> exact wpAny_pure ⟨V, σ₁, q, hb, st⟩
      | cons _ _ => simp [zbQ, zbR, zbS, zbT] at hm
    | cons e' es =>
      cases xs with
      | nil => simp [zbQ, zbR, zbS, zbT] at hm
      | cons y ys =>
        simp only [zaT, zav] at h
        refine wpAny_bind (seqB (.refl d.r) (he U d hm.1 h fun V σ' q => ?_) fun b V σ₁ s₁ q hb _ st => ?_)
        · refine ob7 (za6 q) ?_
          intro b hb _
          exact ⟨b, hb⟩
        refine ob7 (za6 q) ?_
        intro b' hb' q
        rw [hb] at hb'; cases hb'
        have go : b = isAnd → wpAny C.M A (allTrue (if isAnd then .And else .Or) (y :: ys) env) (zjr C σ s Q) (PostX C σ s X) s₁ := fun e => by
          rw [if_pos e] at q
          exact wpAny_mono (hs U (d.step st) hm.2 q hq) (fun _ _ ⟨V, σ', q1, q2, q3⟩ => ⟨V, σ', q1, q2, st.trans q3⟩) fun _ _ hx => hx.from st
        have no : b ≠ isAnd → zjr C σ s Q b s₁ := fun e => by
          rw [if_neg e] at q
          exact ⟨V, σ₁, q, hb, st⟩
        cases isAnd <;> cases b
        · exact go rfl
        · exact wpAny_pure (no (by decide))
        · exact wpAny_pure (no (by decide))
        · exact go rfl
theorem zmU {isAnd : Bool} {es : Exs} (hs : BoP C es) : EvP C (.bool isAnd es) := by
  intro k md Φ S x env A ρ σ s Q X U d hm h
  dsimp only [zaD] at h
  refine boME hm ?_
  intro op xs p hm
  · simp only [Bool.and_eq_true, decide_eq_true_eq] at hm
    refine ob14 hm ?_
    clear hm
    intro ee76
    subst ee76
    intro hm
    rw [arm_eval_BoolOp]
    exact hs U d hm h
theorem zl4 {isAnd : Bool} {es : Exs} (hs : BtP C es) : TrP C (.bool isAnd es) := by
  intro k md Φ S x env A ρ σ s Q X U d hm h hq
  dsimp only [zaD] at h
  refine boME hm ?_
  intro op xs p hm
  · simp only [Bool.and_eq_true, decide_eq_true_eq] at hm
    refine ob14 hm ?_
    clear hm
    intro ee77
    subst ee77
    intro hm
    exact wpAny_isTrue_BoolOp (hs U d hm h hq)
/- methods of lists -/
theorem zmx {a : Addr} {vs : List V} (r : Rel C σ s.heap) (ha : σ a = some (.list vs)) : s.TypeIs (.ref a) "list" ∧ ∀ b, Value.ref a = .ref b → ∃ ob, s.heap.get? b = some ob ∧ ob.dict = none := by
  refine ob17 (r.list ha) ?_
  intro xs n hL _
  exact ⟨⟨_, hL, rfl⟩, fun b e => by cases e; exact ⟨_, hL, rfl⟩⟩
theorem zod {o e : Ex} {m : M1} (ho : EvP C o) (he : EvP C e) : EvP C (.m1 o m e) := by
  intro k md Φ S x env A ρ σ s Q X U d hm h
  dsimp only [E_m1] at h
  refine acME hm ?_
  intro x id apos xs pos hm
  refine l1E hm ?_
  intro y hm
  · simp only [Bool.and_eq_true, decide_eq_true_eq] at hm
    refine ob32 hm ?_
    clear hm
    intro ee78
    subst ee78
    intro hline hb h1 h2
    refine Call_method1 (zh2 hb _) (zbU h2) hline (seqE (.refl d.r) (ho U d h1 h) fun y u σ₁ s₁ q hu _ st => ?_)
    refine lift fun gg back => ?_
    refine ob1 (zbq q) ?_
    intro a vs ee79
    subst ee79
    intro ha q
    cases hu.ref_of
    refine ob14 (zmx st.rel ha) ?_
    intro hT hdn
    refine back ?_
    clear back gg
    have go : ∀ {id : String}, id = m1Id m → wpAny C.M A (callWith pos (.builtin id) [.ref a] [(false, eval y env)] []) (PostV C σ s Q) (PostX C σ s X) s₁ := fun {id} hid =>
      zn7 (u := .ref a) (v := .none) (y := .none) hid (seqE st (he U (d.step st) h2 q) fun z v σ₂ s₂ q hv st₂ st' => ⟨σ₂, v, Q, st'.rel, .ref, hv, q, fun z s₂ hz => hz.from st'⟩) ⟨a, rfl⟩
    cases m with
    | append => exact ⟨"list", "list.append", F.plainAttrs_list, F.slot_list_append, F.type_list_append, hT, hdn, go rfl⟩
end
end Mine
end
section
set_option linter.unusedVariables false
namespace Mine
open PySem PySem.W PySem.Calls PyProof.Rows
section
variable {C : Cx} {k : Nat} {md : Bool} {Φ : Calls} {S : Sc} {env : Env} {A : Around} {ρ : Loc} {σ σ' σ₁ : Store} {s s' s₁ : Shared} {D : Addr → Prop}
theorem Step.old (x : Step C (fun a => D a ∨ s.heap.objs.size ≤ a) σ s σ' s') : Step C D σ s σ' s' :=
  ⟨⟨x.h.size, fun a o e n => x.h.keep a o e fun d => d.elim (fun z => n (.inl z)) fun z => z.elim (fun z => n (.inr z)) fun z => absurd (Heap.lt_size e) (Nat.not_lt.mpr z), x.h.tup⟩, x.rel, x.dom, x.fresh, x.gens, x.os⟩
structure Hold (C : Cx) (wr : List Addr) (σ : Store) (h : Heap) : Prop where
  no : ∀ b ∈ wr, σ b = none ∧ C.base.get? b = none
  at_ : ∀ b ∈ wr, ∃ o, h.get? b = some o ∧ ¬ IsT o ∧ ∀ es n, o.data ≠ .dict es n
theorem Step.wrote {wr : List Addr} {h' : Heap} {t : Nat} (r : Rel C σ s.heap) (m : Hold C wr σ s.heap) (k : ∀ b o, b ∉ wr → s.heap.get? b = some o → h'.get? b = some o) (hs : s.heap.objs.size ≤ h'.objs.size) :
    Step C (· ∈ wr) σ s σ { s with heap := h', toks := t } := by
  have tk : zbO s.heap h' := fun b o e ht => k b o (fun hb => by obtain ⟨o', e', nt, _⟩ := m.at_ b hb; rw [e] at e'; cases e'; exact nt ht) e
  refine ⟨⟨hs, fun a o e n => .inl (k a o (fun hb => n (.inr hb)) e), tk⟩, r.frame (fun a o q => ?_) tk (fun b o e => k b o (fun hb => ?_) (r.stays b o e)) hs, fun _ x => x, fun _ x => .inl x, rfl, rfl⟩
  · refine ob7 ((r.tr a o q).there) ?_
    intro ob ho _
    rw [ho]
    exact k a ob (fun hb => by rw [(m.no a hb).1] at q; cases q) ho
  · rw [(m.no b hb).2] at e; cases e
theorem LR.keep {nm : List (String × Nat)} (x : LR C σ s.heap env nm ρ) (y : Step C D σ s σ' s') (hO : ∀ a, Own env a → ¬ D a) : LR C σ' s'.heap env nm ρ := by
  refine ob8 x.locals ?_
  intro m o es ep hL hLd hLr
  have kL : ∀ o, s.heap.get? env.locals = some o → KeptAs o (s'.heap.get? env.locals) := fun o ho => y.h.keep _ o ho fun d => d.elim (fun z => z x.lnew.1) (hO _ (.inl rfl))
  have kN : ∀ m, s.heap.Ns env.locals m → s'.heap.Ns env.locals m := fun m hm => zhK hm hL (kL o hL)
  have kC : ∀ {n c v}, env.cells.lookup n = some c → s.heap.IsCell c v → s'.heap.IsCell c v := fun {n c v} hc hv => zhf hv fun o ho => y.h.keep _ o ho fun d => d.elim (fun z => z (x.cells _ _ hc).2.1) (hO _ (.inr ⟨_, hc⟩))
  refine ⟨fun n i v hn hv => ?_, ⟨m, kN m ⟨o, es, ep, hL, hLd, hLr⟩⟩, ⟨zb9 y hL x.lnew.1, x.lnew.2⟩, fun n c hc => ?_, x.apart⟩
  · have := x.holds n i v hn hv
    unfold Holds at this ⊢
    split at this
    · refine ob1 this ?_
      clear this
      intro m u h1 h2 h3
      exact ⟨m, u, kN m h1, h2, y.vr h3⟩
    · refine ob1 this ?_
      clear this
      intro c u h1 h2 h3
      exact ⟨c, u, h1, kC h1 h2, y.vr h3⟩
    · refine ob1 this ?_
      clear this
      intro c u h1 h2 h3
      exact ⟨c, u, h1, kC h1 h2, y.vr h3⟩
    · trivial
  · refine ob9 (x.cells n c hc) ?_
    intro v hv h2 h3
    refine ob7 (id hv) ?_
    intro o' ho' _
    exact ⟨⟨v, kC hc hv⟩, zb9 y ho' h2, h3⟩
noncomputable def Low (A : Around) (n : Nat) : Prop := ∀ l, A.frames = some l → ∀ L ∈ l.filterMap (·.frame), L < n
theorem AOk.low {k : Nat} (x : AOk C k md A σ s.heap) : Low A s.heap.objs.size := by
  refine lift fun gg back => ?_
  obtain ⟨⟨l, hl, hf, hn⟩, _⟩ := x
  refine back ?_
  clear back gg
  intro l' hl' L hL
  rw [hl] at hl'; cases hl'
  refine ob3 (hn L hL) ?_
  intro _ o _ _ ho _
  exact Heap.lt_size ho
theorem Dyn.apart {n : Nat} (d : Dyn C k md S A env ρ σ s) (y : Step C D σ s σ' s') (low : Low A n) (hn : ∀ a, D a → n ≤ a) (hO : ∀ a, Own env a → ¬ D a) : Dyn C k md S A env ρ σ' s' :=
  ⟨d.a.keep y fun l hl L hL hd => absurd (low l hl L hL) (Nat.not_lt.mpr (hn L hd)), y.rel, d.l.keep y hO, d.len⟩
theorem Hold.step {wr : List Addr} (m : Hold C wr σ s.heap) (y : Step C D σ s σ' s') (hD : ∀ b ∈ wr, ¬ D b) : Hold C wr σ' s'.heap ∧ ∀ b ∈ wr, ∀ o, s.heap.get? b = some o → s'.heap.get? b = some o := by
  have kp : ∀ b ∈ wr, ∀ o, s.heap.get? b = some o → s'.heap.get? b = some o := fun b hb o e => by
    refine ob2 (m.at_ b hb) ?_
    intro o' e' _ nd
    rw [e] at e'; cases e'
    exact (y.h.keep b o e fun q => q.elim (fun z => z (m.no b hb).1) (hD b hb)).plain nd
  refine ⟨⟨fun b hb => ?_, fun b hb => ?_⟩, kp⟩
  · refine ob7 (m.at_ b hb) ?_
    intro o' e' _
    exact ⟨zb9 y e' (m.no b hb).1, (m.no b hb).2⟩
  · refine ob7 (m.at_ b hb) ?_
    intro o' e' nd
    exact ⟨o', kp b hb o' e', nd⟩
structure ItOk (C : Cx) (A : Around) (I : Addr) (wr : List Addr) (items : List V) (chk : Store → Prop) (St : Nat → Heap → Prop) (Mid : Nat → Value → Heap → Prop) : Prop where
  at_ : ∀ i h, St i h → ∀ b ∈ wr, ∃ o, h.get? b = some o ∧ ¬ IsT o ∧ ∀ es n, o.data ≠ .dict es n
  frame : ∀ i h h', St i h → zbO h h' → (∀ b ∈ wr, ∀ o, h.get? b = some o → h'.get? b = some o) → St i h'
  item : ∀ i σ s (hi : i < items.length), St i s.heap → Rel C σ s.heap → chk σ → ∀ (Q : Option Value → Shared → Prop) (E : Value → Shared → Prop),
    (∀ v h' tk, VR h' items[i] v → Mid i v h' → (∀ b o, b ∉ wr → s.heap.get? b = some o → h'.get? b = some o) → Q (some v) { s with heap := h', toks := tk }) → wpAny C.M A (pyNext (.ref I)) Q E s
  midAt : ∀ i v h, Mid i v h → ∀ b ∈ wr, ∃ o, h.get? b = some o ∧ ¬ IsT o ∧ ∀ es n, o.data ≠ .dict es n
  go : ∀ (tg : Expr) i v s (Q : Unit → Shared → Prop) (E : Value → Shared → Prop), Mid i v s.heap →
    (∀ h', St (i + 1) h' → (∀ b o, b ∉ wr → s.heap.get? b = some o → h'.get? b = some o) → Q () { s with heap := h' }) → wpAny C.M A (letOwnedTupleGo tg (.ref I) v) Q E s
  done : ∀ σ s, St items.length s.heap → Rel C σ s.heap → chk σ → ∀ (Q : Option Value → Shared → Prop) (E : Value → Shared → Prop),
    (∀ h' tk, (∀ b o, b ∉ wr → s.heap.get? b = some o → h'.get? b = some o) → Q none { s with heap := h', toks := tk }) → wpAny C.M A (pyNext (.ref I)) Q E s
  self : ∀ i s (Q : Value → Shared → Prop) (E : Value → Shared → Prop), St i s.heap → Q (.ref I) s → wpAny C.M A (pyIter (.ref I)) Q E s
theorem zcv {I : Addr} {o : Obj} {n : String} {tg : Expr} {v : Value} {Q : Unit → Shared → Prop} {E : Value → Shared → Prop} (ho : s.heap.get? I = some o) (hc : o.cls = .type n)
    (hn : (["enumerate", "zip", "dict_itemiterator", "dict_reverseitemiterator", "odict_iterator", "itertools.zip_longest", "itertools.pairwise"].contains n) = false) (h : Q () s) : wpAny C.M A (letOwnedTupleGo tg (.ref I) v) Q E s := by
  have body : wpAny C.M A (do
      let (.ref r, .ref a) := ((Value.ref I), v) | return
      let o ← load r
      match o.cls, o.data with
      | .type n, .fields vs =>
        if ["enumerate", "zip", "dict_itemiterator", "dict_reverseitemiterator", "odict_iterator", "itertools.zip_longest", "itertools.pairwise"].contains n && vs[0]? == some (rawInt a) then
          rule "for.unpacks-the-owned-tuple"
          updateField r 0 .none
      | _, _ => pure ()) Q E s := by
    cases v with
    | ref a =>
      refine wpAny_bind (wpAny_load ho ?_)
      rw [hc]
      cases o.data with
      | fields vs =>
        show wpAny C.M A (if (_ && _) = true then _ else _) Q E s
        rw [hn, Bool.false_and]
        exact wpAny_pure h
      | _ => exact wpAny_pure h
    | _ => exact wpAny_pure h
  cases tg <;> first | exact body | exact wpAny_pure h
theorem zbk {o : Obj} {vs : Array Value} (h : o.data = .fields vs) : ¬ IsT o ∧ ∀ es n, o.data ≠ .dict es n := ⟨fun ⟨_, _, _, q⟩ => (by rw [h] at q; cases q), fun es n q => (by rw [h] at q; cases q)⟩
theorem ItOk.list {I a : Addr} {vs : List V} (hh : A.handled = none) (hne : a ≠ I) : ItOk C A I [I] vs (fun σ => σ a = some (.list vs)) (fun i h => h.IsListIter I a i) (fun i _ h => h.IsListIter I a (i + 1)) where
  at_ := fun i h ⟨o, ho, hc, hd⟩ b hb => by simp only [List.mem_singleton] at hb; subst hb; exact ⟨o, ho, zbk hd⟩
  frame := fun i h h' hst _ k => hst.at fun o e => k I (by simp) o e
  item := fun i σ s hi hst r hc Q E h => by
    refine ob1 (r.list hc) ?_
    intro xs n hL hX _
    have hi' : i < xs.length := hX.length ▸ hi
    refine wpAny_pyNext_list_item hst hL.isList (x := xs[i]) (by simp [hi']) fun h' hit hs => ?_
    have kk : ∀ b o, b ∉ [I] → s.heap.get? b = some o → h'.get? b = some o := fun b o hb e => (hs.2 b fun q => hb (by simp [q])).trans e
    refine h _ h' s.toks ((hX.at i hi hi').keep fun b o e ht => ?_) hit kk
    refine ob2 hst ?_
    clear hst
    intro oi hoi _ hd
    exact kk b o (fun q => by simp only [List.mem_singleton] at q; subst q; rw [hoi] at e; cases e; exact (zbk hd).1 ht) e
  midAt := fun i v h ⟨o, ho, hc, hd⟩ b hb => by simp only [List.mem_singleton] at hb; subst hb; exact ⟨o, ho, zbk hd⟩
  go := fun tg i v s Q E hm h => by
    refine ob2 (id hm) ?_
    intro o ho hc hd
    exact zcv ho hc (by decide) (h s.heap hm fun _ _ _ e => e)
  done := fun σ s hst r hc Q E h => by
    refine ob1 (r.list hc) ?_
    intro xs n hL hX _
    refine wpAny_pyNext_list_end hh hst hL.isList (by simp [hX.length]) fun h' he => h h' s.toks fun b o hb e => he b o (fun q => hb (by simp [q])) e
  self := fun i s Q E hst h => wpAny_pyIter_listiter hst h
theorem ItOk.tuple {I a : Addr} {vs : List V} {xs : List Value} {n : Nat} (hh : A.handled = none) (hne : a ≠ I) :
    ItOk C A I [I] vs (fun _ => True) (fun i h => h.IsTupleIter I a i ∧ h.get? a = some (seqObj "tuple" xs.toArray n) ∧ VRs h vs xs) (fun i _ h => h.IsTupleIter I a (i + 1) ∧ h.get? a = some (seqObj "tuple" xs.toArray n) ∧ VRs h vs xs) where
  at_ := fun i h ⟨⟨o, ho, hc, hd⟩, _⟩ b hb => by simp only [List.mem_singleton] at hb; subst hb; exact ⟨o, ho, zbk hd⟩
  frame := fun i h h' ⟨h1, h2, h3⟩ tk k => ⟨h1.at fun o e => k I (by simp) o e, tk _ _ h2 ⟨rfl, _, _, rfl⟩, h3.keep tk⟩
  item := fun i σ s hi ⟨hst, hT, hX⟩ r _ Q E h => by
    have hi' : i < xs.length := hX.length ▸ hi
    refine wpAny_pyNext_tuple_item hst (zcu hT) (x := xs[i]) (by simp [hi']) fun h' hit hs => ?_
    have kk : ∀ b o, b ∉ [I] → s.heap.get? b = some o → h'.get? b = some o := fun b o hb e => (hs.2 b fun q => hb (by simp [q])).trans e
    have tk : zbO s.heap h' := fun b o e ht => by
      refine ob2 hst ?_
      clear hst
      intro oi hoi _ hd
      exact kk b o (fun q => by simp only [List.mem_singleton] at q; subst q; rw [hoi] at e; cases e; exact (zbk hd).1 ht) e
    exact h _ h' s.toks ((hX.at i hi hi').keep tk) ⟨hit, tk _ _ hT ⟨rfl, _, _, rfl⟩, hX.keep tk⟩ kk
  midAt := fun i v h ⟨⟨o, ho, hc, hd⟩, _⟩ b hb => by simp only [List.mem_singleton] at hb; subst hb; exact ⟨o, ho, zbk hd⟩
  go := fun tg i v s Q E hm h => by
    refine ob29 (id hm) ?_
    intro o ho hc hd _
    exact zcv ho hc (by decide) (h s.heap hm fun _ _ _ e => e)
  done := fun σ s ⟨hst, hT, hX⟩ r _ Q E h => by
    refine wpAny_pyNext_tuple_end hh hst (zcu hT) (by simp [hX.length]) fun h' he => h h' s.toks fun b o hb e => he b o (fun q => hb (by simp [q])) e
  self := fun i s Q E hst h => wpAny_pyIter_tupleiter hst.1 h
theorem zkT {a b c : Int} {i : Nat} (h : i < ((upto a b c).map V.int).length) : ((upto a b c).map V.int)[i] = V.int (a + i * c) := by
  simp only [List.length_map] at h
  unfold upto at h ⊢
  split at h
  · rename_i hc
    simp only [List.getElem_map, if_pos hc, List.getElem_range]
    rw [Int.mul_comm]
  · simp at h
theorem ItOk.range {I : Addr} {a b c : Int} {n : Nat} (hh : A.handled = none) (hn : (upto a b c).length = n) :
    ItOk C A I [I] ((upto a b c).map V.int) (fun _ => True) (fun i h => IsRangeIter h I (a + (i : Nat) * c) ((n : Int) - (i : Nat)) c) (fun i _ h => IsRangeIter h I (a + (i + 1 : Nat) * c) ((n : Int) - (i + 1 : Nat)) c) where
  at_ := fun i h ho b hb => by simp only [List.mem_singleton] at hb; subst hb; exact ⟨_, ho, zbk rfl⟩
  frame := fun i h h' hst _ k => k I (by simp) _ hst
  item := fun i σ s hi hst r hc Q E h => by
    have hi' : i < n := by simp only [List.length_map] at hi; lia
    refine wpAny_pyNext_range_item hst (by lia) fun h' hit hs => ?_
    have e1 : a + ((i + 1 : Nat) : Int) * c = a + (i : Int) * c + c := by push_cast; rw [Int.add_mul, Int.one_mul, Int.add_assoc]
    have e2 : (n : Int) - ((i + 1 : Nat) : Int) = (n : Int) - (i : Int) - 1 := by push_cast; lia
    refine h _ h' _ ?_ ?_ fun b o hb e => (hs.2 b fun q => hb (by simp [q])).trans e
    · rw [zkT hi]; exact .int
    · rw [e1, e2]; exact hit
  midAt := fun i v h ho b hb => by simp only [List.mem_singleton] at hb; subst hb; exact ⟨_, ho, zbk rfl⟩
  go := fun tg i v s Q E hm h => zcv hm rfl (by decide) (h s.heap hm fun _ _ _ e => e)
  done := fun σ s hst r hc Q E h => by
    simp only [List.length_map, hn] at hst
    exact wpAny_pyNext_range_end hh hst (by lia) fun h' he => h h' s.toks fun b o hb e => he b o (fun q => hb (by simp [q])) e
  self := fun i s Q E hst h => wpAny_pyIter_rangeiter hst h
end
end Mine
end
section
set_option linter.unusedVariables false
namespace Mine
open PySem PySem.W PySem.Calls PyProof.Rows
section
variable {C : Cx} {k : Nat} {md : Bool} {Φ : Calls} {S : Sc} {env : Env} {A : Around} {ρ : Loc} {σ σ' σ₁ : Store} {s s' s₁ : Shared} {D : Addr → Prop} {X : XP}
noncomputable def zlY (C : Cx) (A : Around) (e : Ex) (σ : Store) (s : Shared) (Q : List V → (Store → Prop) → Store → Prop) : Value → Shared → Prop := fun v s₂ =>
  ∃ I wr items chk St Mid σ₁, v = .ref I ∧ ItOk C A I wr items chk St Mid ∧ St 0 s₂.heap ∧ Hold C wr σ₁ s₂.heap ∧ (∀ b ∈ wr, s.heap.objs.size ≤ b) ∧ Step C No σ s σ₁ s₂ ∧ Q items chk σ₁
noncomputable def ItP (C : Cx) (e : Ex) : Prop := ∀ {k : Nat} {md : Bool} {Φ : Calls} {S : Sc} {x : Expr} {env : Env} {A : Around} {ρ : Loc} {σ : Store} {s : Shared} {Q : List V → (Store → Prop) → Store → Prop} {X : XP},
  Sur C k md Φ S env → Dyn C k md S A env ρ σ s → za8 S e x = true → md = true → wpIt Φ md e ρ σ Q X → wpAny C.M A (eval x env) (fun v s₁ => wpAny C.M A (pyIter v) (zlY C A e σ s Q) (PostX C σ s X) s₁) (PostX C σ s X) s
theorem zge {h : Heap} {o : Obj} (r : Rel C σ₁ s₁.heap) (hb : ¬ IsT o) (hd : ∀ es n, o.data ≠ .dict es n) (hf : o.isFreed = false) (ho : (s₁.heap.push o).get? s₁.heap.objs.size = some o) : Hold C [s₁.heap.objs.size] σ₁ (s₁.heap.push o) :=
  ⟨fun b hb => by simp only [List.mem_singleton] at hb; subst hb; exact ⟨r.none_of_ge (Nat.le_refl _), zbN r (Nat.le_refl _)⟩, fun b hb => by simp only [List.mem_singleton] at hb; subst hb; exact ⟨o, ho, ‹_›, hd⟩⟩
theorem zjf {e : Ex} (he : EvP C e) (hw : ∀ Φ md ρ σ Q X, wpIt Φ md e ρ σ Q X = wpE Φ md e ρ σ (fun u σ₁ => zcY u σ₁ fun items chk => Q items chk σ₁) X) : ItP C e := by
  intro k md Φ S x env A ρ σ s Q X U d hm hmd h
  rw [hw] at h
  refine seqE (.refl d.r) (he U d hm h) fun v u σ₁ s₁ q hu _ st => ?_
  have hh := d.a.handled hmd
  unfold zcY at q
  split at q
  · refine ob6 hu.tup_of ?_
    intro a xs n ee80
    subst ee80
    intro ha hX
    refine wpAny_pyIter_tuple (zcu ha) ?_
    refine ⟨_, [s₁.heap.objs.size], _, _, _, _, σ₁, rfl, ItOk.tuple (a := a) (xs := xs) (n := n) hh (Nat.ne_of_lt (Heap.lt_size ha)), ⟨⟨_, Heap.get?_push_size _ rfl, rfl, rfl⟩, zbd _ _ ha, hX.keep fun b o e _ => zbd _ _ e⟩,
      zge (h := s₁.heap) st.rel (zbk rfl).1 (zbk rfl).2 rfl (Heap.get?_push_size _ rfl), fun b hb => by simp only [List.mem_singleton] at hb; subst hb; exact st.h.size, st.trans (.grow (t := s₁.toks) st.rel zbd zbn), q⟩
  · refine ob1 (zbq q) ?_
    intro a vs e ha q
    cases e
    refine lift fun gg back => ?_
    cases hu.ref_of
    refine ob1 (st.rel.list ha) ?_
    intro xs n hL hX _
    refine back ?_
    clear back gg
    refine wpAny_pyIter_list hL.isList ?_
    refine ⟨_, [s₁.heap.objs.size], _, _, _, _, σ₁, rfl, ItOk.list hh (Nat.ne_of_lt (Heap.lt_size hL)), ⟨_, Heap.get?_push_size _ rfl, rfl, rfl⟩,
      zge (h := s₁.heap) st.rel (zbk rfl).1 (zbk rfl).2 rfl (Heap.get?_push_size _ rfl), fun b hb => by simp only [List.mem_singleton] at hb; subst hb; exact st.h.size, st.trans (.grow (t := s₁.toks) st.rel zbd zbn), q⟩
  · exact q.elim
theorem zkS (a b c : Int) (hc : 0 < c) : Builtin.Range.rangeSize a b c = ((upto a b c).length : Int) := by
  unfold Builtin.Range.rangeSize upto
  rw [if_pos hc, if_pos hc]
  simp only [List.length_map, List.length_range]
  split
  · rename_i h
    have e : (b - a + c - 1) / c = (b - a - 1) / c + 1 := by
      rw [show b - a + c - 1 = (b - a - 1) + c * 1 by lia, Int.add_mul_ediv_left _ _ (by lia)]
    have : 0 ≤ (b - a - 1) / c := Int.ediv_nonneg (by lia) (by lia)
    rw [e]; lia
  · rename_i h
    have : (b - a + c - 1) / c ≤ 0 := by
      have := Int.ediv_lt_of_lt_mul hc (show b - a + c - 1 < 1 * c by lia)
      lia
    lia
theorem zdV {a b c : Int} (ha : a < 2 ^ 31) (ha' : -(2 ^ 31) < a) (hb : b < 2 ^ 31) (hb' : -(2 ^ 31) < b) (hc : 0 < c) (hc' : c < 2 ^ 31) : Builtin.Range.small a b c = true := by
  have hl : Builtin.Range.rangeSize a b c ≤ 2 ^ 33 ∧ 0 ≤ Builtin.Range.rangeSize a b c := by
    unfold Builtin.Range.rangeSize
    rw [if_pos hc]
    split
    · have h0 : 0 ≤ (b - a - 1) / c := Int.ediv_nonneg (by lia) (by lia)
      have h1 : (b - a - 1) / c ≤ b - a - 1 := Int.ediv_le_self _ (by lia)
      lia
    · lia
  unfold Builtin.Range.small Builtin.Range.rangeFitsLong
  simp only [gt_iff_lt, hc, if_true, Bool.and_eq_true, Bool.or_eq_true, decide_eq_true_eq, beq_iff_eq]
  lia
theorem zf9 {e : Ex} {a b c : Int} {t u v : Tok} {r : Addr} {Q : List V → (Store → Prop) → Store → Prop} {E : Value → Shared → Prop} (hh : A.handled = none) (st : Step C No σ s σ₁ s₁) (hr : IsRange s₁.heap r a b c t u v)
    (hc : 0 < c) (hs : Builtin.Range.small a b c = true) (q : Q ((upto a b c).map V.int) (fun _ => True) σ₁) : wpAny C.M A (pyIter (.ref r)) (zlY C A e σ s Q) E s₁ := by
  refine wpAny_pyIter_range hr hs ?_
  refine ⟨_, [s₁.heap.objs.size], _, _, _, _, σ₁, rfl, ItOk.range (a := a) (b := b) (c := c) hh rfl, ?_,
      zge (h := s₁.heap) st.rel (zbk rfl).1 (zbk rfl).2 rfl (Heap.get?_push_size _ rfl), fun b hb => by simp only [List.mem_singleton] at hb; subst hb; exact st.h.size, st.trans (.grow (t := s₁.toks) st.rel zbd zbn), q⟩
  show (s₁.heap.push _).get? _ = _
  rw [zkS a b c hc, Heap.get?_push_size _ rfl]
  simp
theorem zj5 {a : Ex} (ha : EvP C a) : ItP C (.range1 a) := by
  intro k md Φ S x env A ρ σ s Q X U d hm hmd h
  dsimp only [I_r1, I_r2, I_r3, zaS, zlJ, zau, ziO, zat, zgy] at h
  refine ncME hm ?_
  intro id np xs pos hm
  refine l1E hm ?_
  intro x hm
  · simp only [Bool.and_eq_true] at hm
    refine Call_Name rfl (ze7 (v := .type "range") U d.r hm.1 (List.mem_of_getElem? (i := 12) rfl) (zlN hm.2 (seqE (.refl d.r) (ha U d hm.2 h) fun v u σ₁ s₁ q hu _ st => ?_)))
    refine ob22 (zby q) ?_
    intro i ee81
    subst ee81
    intro h1 h2 q
    refine ob12 hu.int_of ?_
    intro t ee82
    subst ee82
    exact call_range_1 (zf9 (s₁ := { s₁ with heap := _, toks := _ }) (d.a.handled hmd) (st.trans (.grow st.rel zbd zbn)) (IsRange.new ..) (by decide) (zdV (by lia) (by lia) h1 h2 (by lia) (by lia)) q)
theorem zmk {id : String} {x y : Expr} {e e' : Ex} {pos : Pos} {K : Value → Shared → Prop} {E : Value → Shared → Prop} (hm : za8 S e x = true) (hm' : za8 S e' y = true)
    (h : wpAny C.M A (eval x env) (fun v s₁ => wpAny C.M A (eval y env) (fun u s₂ => wpAny C.M A (call (.type id) [v, u]) K E s₂) E s₁) E s) :
    wpAny C.M A (callWith pos (.type id) [] (backTo pos (starEach [x, y] env)) []) K E s := by
  rw [zbU hm, zbU hm']
  exact PySem.callWith_type (by rfl) (evalArgs_plain (spliced_cons (wpAny_mono h (fun v s₁ h₁ => spliced_cons (wpAny_mono h₁ (fun u s₂ h₂ => spliced_nil h₂) fun _ _ e => e)) fun _ _ e => e)))
theorem zmj {id : String} {x y z : Expr} {e e' e'' : Ex} {pos : Pos} {K : Value → Shared → Prop} {E : Value → Shared → Prop} (hm : za8 S e x = true) (hm' : za8 S e' y = true) (hm'' : za8 S e'' z = true)
    (h : wpAny C.M A (eval x env) (fun v s₁ => wpAny C.M A (eval y env) (fun u s₂ => wpAny C.M A (eval z env) (fun w s₃ => wpAny C.M A (call (.type id) [v, u, w]) K E s₃) E s₂) E s₁) E s) :
    wpAny C.M A (callWith pos (.type id) [] (backTo pos (starEach [x, y, z] env)) []) K E s := by
  rw [zbU hm, zbU hm', zbU hm'']
  exact PySem.callWith_type (by rfl) (evalArgs_plain (spliced_cons (wpAny_mono h (fun v s₁ h₁ => spliced_cons (wpAny_mono h₁ (fun u s₂ h₂ => spliced_cons (wpAny_mono h₂ (fun w s₃ h₃ => spliced_nil h₃) fun _ _ e => e)) fun _ _ e => e)) fun _ _ e => e)))
theorem zj4 {a b : Ex} (ha : EvP C a) (hb : EvP C b) : ItP C (.range2 a b) := by
  intro k md Φ S x env A ρ σ s Q X U d hm hmd h
  dsimp only [I_r1, I_r2, I_r3, zaS, zlJ, zau, ziO, zat, zgy] at h
  refine ncME hm ?_
  intro id np xs pos hm
  refine l2E hm ?_
  intro x y hm
  · simp only [Bool.and_eq_true] at hm
    refine ob31 hm ?_
    clear hm
    intro h0 h1 h2
    refine Call_Name rfl (ze7 (v := .type "range") U d.r h0 (List.mem_of_getElem? (i := 12) rfl) (zmk h1 h2 (seqE (.refl d.r) (ha U d h1 h) fun x u σ₁ s₁ q hu _ st => seqE st (hb U (d.step st) h2 q) fun y v σ₂ s₂ q hv st₂ st' => ?_)))
    refine lift fun gg back => ?_
    refine ob7 (zby q) ?_
    intro i ee83
    subst ee83
    intro q1
    refine ob37 (zby q1) ?_
    intro j ee84
    subst ee84
    intro h3 h4 h5 h6 q2
    refine ob12 hu.int_of ?_
    intro t ee85
    subst ee85
    refine ob12 hv.int_of ?_
    intro t' ee86
    subst ee86
    refine back ?_
    clear back gg
    exact call_range_2 (zf9 (s₁ := { s₂ with heap := _, toks := _ }) (d.a.handled hmd) (st'.trans (.grow st'.rel zbd zbn)) (IsRange.new ..) (by decide) (zdV h5 h6 h3 h4 (by lia) (by lia)) q2)
theorem zj3 {a b c : Ex} (ha : EvP C a) (hb : EvP C b) (hc : EvP C c) : ItP C (.range3 a b c) := by
  intro k md Φ S x env A ρ σ s Q X U d hm hmd h
  dsimp only [I_r1, I_r2, I_r3, zaS, zlJ, zau, ziO, zat, zgy] at h
  refine ncME hm ?_
  intro id np xs pos hm
  refine l3E hm ?_
  intro x y z hm
  · simp only [Bool.and_eq_true] at hm
    refine ob38 hm ?_
    clear hm
    intro h0 h1 h2 h3
    refine Call_Name rfl (ze7 (v := .type "range") U d.r h0 (List.mem_of_getElem? (i := 12) rfl) (zmj h1 h2 h3 (seqE (.refl d.r) (ha U d h1 h) fun x u σ₁ s₁ q hu _ st => seqE st (hb U (d.step st) h2 q) fun y v σ₂ s₂ q hv st₂ st' =>
      seqE st' (hc U (d.step st') h3 q) fun z w σ₃ s₃ q hw st₃ st'' => ?_)))
    refine lift fun gg back => ?_
    refine ob7 (zby q) ?_
    intro i ee87
    subst ee87
    intro q1
    refine ob7 (zby q1) ?_
    intro j ee88
    subst ee88
    intro q2
    refine ob39 (zby q2) ?_
    intro l ee89
    subst ee89
    intro h3 h4 h5 h6 h7 h8 q3
    refine ob12 hu.int_of ?_
    intro t ee90
    subst ee90
    refine ob12 hv.int_of ?_
    intro t' ee91
    subst ee91
    refine ob12 hw.int_of ?_
    intro t'' ee92
    subst ee92
    refine back ?_
    clear back gg
    refine call_range_3 (by lia) (zf9 (s₁ := { s₃ with heap := _, toks := _ }) (d.a.handled hmd) (st''.trans (.grow st''.rel zbd zbn)) (IsRange.new ..) h7 (zdV h5 h6 h3 h4 h7 (by lia)) q3) (.inl (PyProof.noPylong_small (by lia)))
theorem Dyn.own {ρ' : Loc} {P : Addr → Prop} (d : Dyn C k md S A env ρ σ s) (st : Step C P σ s σ' s') (hP : ∀ a, P a → Own env a) (l : LR C σ' s'.heap env S.nm ρ') (hl : ρ'.length = ρ.length) : Dyn C k md S A env ρ' σ' s' :=
  ⟨d.a.keep st fun fl hfl L hL hp => (by
    rcases hP L hp with rfl | ⟨n, hc⟩
    · refine ob8 l.locals ?_
      intro m o es ep ho hd _
      exact ⟨o, es, ep, ho, hd⟩
    · exfalso
      refine ob10 (d.l.cells n L hc) ?_
      intro v o ho hd _
      refine ob2 d.a.frames ?_
      intro fl' hfl' _ hn
      rw [hfl] at hfl'; cases hfl'
      refine ob3 (hn L hL) ?_
      intro _ o' es n' ho' hd'
      rw [ho] at ho'; cases ho'; rw [hd] at hd'; cases hd'), st.rel, l, hl.trans d.len⟩
theorem zgK {id : Str} {i : Nat} {v : V} {x : Value} {Q : Unit → Shared → Prop} {E : Value → Shared → Prop} (U : Sur C k md Φ S env) (d : Dyn C k md S A env ρ σ s) (hm : S.own id i = true) (hv : VR s.heap v x)
    (h : ∀ s', Step C (OwnAt env id) σ s σ s' → Dyn C k md S A env (ρ.set i (some v)) σ s' → Q () s') : wpAny C.M A (storeName env id x) Q E s := by
  refine ob2 (Sc.own_elim hm) ?_
  intro n ee93
  subst ee93
  intro hn hk
  refine zkY U.ev.toEnvOk d.r d.l hn U.ev.nm d.len (by rw [U.ev.kindOf]; exact hk) (fun hc => U.ev.cells _ (.inl (by rw [← U.ev.kindOf]; exact hc))) hv fun s' st l => h s' st (d.own st (fun _ q => q.own) l (by simp))
theorem zfd {P : Addr → Prop} {t : Tg} {tg : Expr} {v : V} {x : Value} {ρ' : Loc} {Q : Unit → Shared → Prop} {E : Value → Shared → Prop} (U : Sur C k md Φ S env) (d : Dyn C k md S A env ρ σ s) (hm : zeW S t tg = true) (hv : VR s.heap v x) (hb : zbo t v ρ = some ρ')
    (hh : tgOk md t) (hP : ∀ id i, S.own id i = true → i ∈ tgOf t → ∀ a, OwnAt env id a → P a) (h : ∀ s', Step C P σ s σ s' → Dyn C k md S A env ρ' σ s' → Q () s') : wpAny C.M A (assign tg env x) Q E s := by
  cases t with
  | one i =>
    refine nmME hm ?_
    intro id p hm
    cases hb
    exact wpAny_assign_Name (zgK U d hm hv fun s' st d' => h s' (st.mono (hP _ _ hm (by simp [tgOf]))) d')
end
end Mine
end
section
set_option linter.unusedVariables false
namespace Mine
open PySem PySem.W PySem.Calls PyProof.Rows
noncomputable def zon (C : Cx) (σ : Store) (s : Shared) (Q : Bool → Store → Prop) : Bool → Shared → Prop := fun b s' => ∃ σ', Q b σ' ∧ Step C No σ s σ' s'
noncomputable def CoP (C : Cx) (o : ExO) : Prop := ∀ {k : Nat} {md : Bool} {Φ : Calls} {S : Sc} {ifs : List Expr} {env : Env} {A : Around} {ρ : Loc} {σ : Store} {s : Shared} {Q : Bool → Store → Prop} {X : XP},
  Sur C k md Φ S env → Dyn C k md S A env ρ σ s → zd9 S o ifs = true → wpC Φ md o ρ σ Q X →
    wpAny C.M A (forIn ifs true fun c r => if r = true then do let ok ← isTrue c env (eval c env); pure (ForInStep.yield ok) else pure (ForInStep.yield r)) (zon C σ s Q) (PostX C σ s X) s
section
variable {C : Cx} {k : Nat} {md : Bool} {Φ : Calls} {S : Sc} {env : Env} {A : Around} {ρ : Loc} {σ σ' σ₁ : Store} {s s' s₁ : Shared} {D : Addr → Prop} {X : XP}
theorem co_none : CoP C .none := by
  intro k md Φ S ifs env A ρ σ s Q X U d hm h
  cases ifs with
  | nil => simp only [zax, zaw] at h; exact wpAny_tests_nil ⟨σ, h, .refl d.r⟩
  | cons _ _ => simp [zli, zlj, zlf, zlh, zlg] at hm
theorem zm3 {e : Ex} (he : TrP C e) : CoP C (.some e) := by
  intro k md Φ S ifs env A ρ σ s Q X U d hm h
  cases ifs with
  | nil => simp [zli, zlj, zlf, zlh, zlg] at hm
  | cons x r =>
    cases r with
    | cons _ _ => simp [zli, zlj, zlf, zlh, zlg] at hm
    | nil =>
      simp only [zli, zlj, zlf, zlh, zlg] at hm; simp only [zax, zaw] at h
      refine wpAny_tests_one (seqB (.refl d.r) (he U d hm h fun V σ' q => ?_) fun b V σ₁ s₁ q hb _ st => ?_)
      · refine ob7 (za6 q) ?_
        intro b hb _
        exact ⟨b, hb⟩
      · refine ob7 (za6 q) ?_
        intro b' hb' q
        rw [hb] at hb'; cases hb'
        exact ⟨σ₁, q, st⟩
theorem Step.adopt {a : Addr} {o : AO} (x : Step C D σ s σ' s') (ha : s.heap.objs.size ≤ a) (hn : σ' a = none) (hO : OR C.cls C.prog C.w s'.heap a o) (hb : C.base.objs.size ≤ a) : Step C D σ s (σ'.upd a o) s' := by
  refine ⟨x.h, ⟨x.rel.stays, fun b ob q => ?_, fun b ob q => ?_, x.rel.size⟩, fun b n => ?_, fun b n => ?_, x.gens, x.os⟩
  · by_cases e : b = a
    · subst e; rw [zdH] at q; cases q; exact hO
    · rw [zcy e] at q; exact x.rel.tr b ob q
  · by_cases e : b = a
    · subst e; exact .inl hb
    · rw [zcy e] at q; exact x.rel.new b ob q
  · by_cases e : b = a
    · subst e; rw [zdH]; simp
    · rw [zcy e]; exact x.dom b n
  · by_cases e : b = a
    · subst e; exact .inr ha
    · rw [zcy e] at n; exact x.fresh b n
theorem zgm {elt target iter : Expr} {ifs : List Expr} {scope : Scope} {pos : Pos} {it acc : Value} {R : Result → Shared → Prop} (I : Nat → Shared → Prop)
    (turn : ∀ n s, I n s → wpAny C.M A (pyNext it) (fun r s₁ => match r with
      | none => R (.ok .next) s₁
      | some v => wpAny C.M A (letOwnedTupleGo target it v) (fun _ s₁ => wpAny C.M A (assign target env v) (fun _ s₂ =>
          wpAny C.M A (forIn ifs true fun c r => if r = true then do let ok ← isTrue c env (eval c env); pure (ForInStep.yield ok) else pure (ForInStep.yield r)) (fun ok s₃ =>
            if ok = true then wpAny C.M A (eval elt env) (fun x s₄ => wpAny C.M A (call (.builtin "list.append") [acc, x]) (fun _ s₅ => ∃ m, m < n ∧ I m s₅) (fun _ _ => False) s₄) (fun _ _ => False) s₃
            else ∃ m, m < n ∧ I m s₃) (fun _ _ => False) s₂) (fun _ _ => False) s₁) (fun _ _ => False) s₁) (fun _ _ => False) s)
    (n : Nat) (h : I n s) : codeAny C.M A (.compLoop (.ListComp elt [⟨target, iter, ifs, 0⟩] scope pos) 0 it acc env) R s := by
  refine codeAny_loop rfl I (fun n s hI => ?_) n h
  show wpAny _ A ((compTurn (.ListComp elt [⟨target, iter, ifs, 0⟩] scope pos) 0 it acc env).onRaise (fun x => do noteFrame x env; theTreesLotGoes x)) _ _ s
  refine wpAny_noted ?_
  rw [compTurn_list]
  refine wpAny_bind (wpAny_standAt (wpAny_bind (wpAny_mono (turn n s hI) (fun r s₁ h₁ => ?_) fun _ _ h' => h'.elim)))
  cases r with
  | none => exact wpAny_pure h₁
  | some v =>
    refine wpAny_bind (wpAny_mono h₁ (fun _ s₁ h₁ => ?_) fun _ _ h' => h'.elim)
    refine wpAny_bind (wpAny_mono h₁ (fun _ s₂ h₂ => wpAny_bind (wpAny_mono h₂ (fun ok s₃ h₃ => ?_) fun _ _ h' => h'.elim)) fun _ _ h' => h'.elim)
    cases ok with
    | false => exact wpAny_pure ⟨rfl, h₃⟩
    | true =>
      exact wpAny_bind (wpAny_bind (wpAny_mono h₃ (fun x s₄ h₄ => wpAny_bind (wpAny_mono h₄ (fun _ s₅ h₅ => wpAny_pure (wpAny_pure ⟨rfl, h₅⟩)) fun _ _ h' => h'.elim)) fun _ _ h' => h'.elim))
structure CInv (C : Cx) (k : Nat) (md : Bool) (S : Sc) (A : Around) (cenv : Env) (ρ : Loc) (wr : List Addr) (acc : Addr) (St : Nat → Heap → Prop) (σ : Store) (s : Shared) (i : Nat) (vs : List V) (σ' : Store) (s' : Shared) : Prop where
  st : St i s'.heap
  hold : Hold C wr σ' s'.heap
  obj : ∃ xs n, IsL s'.heap acc xs.toArray n ∧ VRs s'.heap vs xs
  len : vs.length ≤ zbb
  accN : σ' acc = none
  step : Step C (fun a => s.heap.objs.size ≤ a) σ s σ' s'
  dyn : Dyn C k md S A cenv ρ σ' s'
theorem CInv.no {cenv : Env} {wr : List Addr} {acc : Addr} {St : Nat → Heap → Prop} {i : Nat} {vs : List V} {σ₂ : Store} {s₂ : Shared} {I : Addr} {items : List V} {chk : Store → Prop} {Mid : Nat → Value → Heap → Prop} {ρ' : Loc}
    (W : ItOk C A I wr items chk St Mid) (v : CInv C k md S A cenv ρ wr acc St σ s i vs σ₁ s₁) (y : Step C D σ₁ s₁ σ₂ s₂) (hw : ∀ b ∈ wr, ¬ D b) (ha : ¬ D acc) (hD : ∀ a, D a → s.heap.objs.size ≤ a) (d : Dyn C k md S A cenv ρ' σ₂ s₂) :
    CInv C k md S A cenv ρ' wr acc St σ s i vs σ₂ s₂ := by
  refine ob14 (v.hold.step y hw) ?_
  intro h1 h2
  refine ob17 v.obj ?_
  intro xs n hL hX
  have hL' : IsL s₂.heap acc xs.toArray n := (y.h.keep acc _ hL fun q => q.elim (fun z => z v.accN) ha).plain (fun es m q => by cases q)
  exact ⟨W.frame i _ _ v.st y.h.tup h2, h1, ⟨xs, n, hL', y.vrs hX⟩, v.len, zb9 y hL v.accN, v.step.trans (y.mono hD), d⟩
theorem ItOk.next {I : Addr} {wr : List Addr} {items : List V} {chk : Store → Prop} {St : Nat → Heap → Prop} {Mid : Nat → Value → Heap → Prop} {i : Nat} {tg : Expr} {K : Option Value → Shared → Prop} {E : Value → Shared → Prop}
    (W : ItOk C A I wr items chk St Mid) (hi : i < items.length) (hst : St i s.heap) (r : Rel C σ s.heap) (m : Hold C wr σ s.heap) (hc : chk σ) 
    (h : ∀ v s₁, (∀ (Q' : Unit → Shared → Prop) (E' : Value → Shared → Prop), (∀ s₂, VR s₂.heap items[i] v → Step C (· ∈ wr) σ s σ s₂ → St (i + 1) s₂.heap → Hold C wr σ s₂.heap → Q' () s₂) → wpAny C.M A (letOwnedTupleGo tg (.ref I) v) Q' E' s₁) → K (some v) s₁) :
    wpAny C.M A (pyNext (.ref I)) K E s := by
  refine zb4 (W.item i σ s hi hst r hc _ _ fun v h' tk hv hmid kk hsz => h v _ fun Q' E' hQ => ?_)
  have st1 : Step C (· ∈ wr) σ s σ { s with heap := h', toks := tk } := .wrote r m kk hsz
  refine zb4 (W.go tg i v _ _ _ hmid fun h'' hst' kk' hsz' => ?_)
  have m1 : Hold C wr σ h' := ⟨m.no, W.midAt i v h' hmid⟩
  have st2 : Step C (· ∈ wr) σ { s with heap := h', toks := tk } σ { s with heap := h'', toks := tk } := .wrote (t := tk) st1.rel m1 kk' hsz'
  exact hQ _ (st2.vr hv) (st1.trans st2) hst' ⟨m.no, W.at_ _ _ hst'⟩
theorem ItOk.stop {I : Addr} {wr : List Addr} {items : List V} {chk : Store → Prop} {St : Nat → Heap → Prop} {Mid : Nat → Value → Heap → Prop} {K : Option Value → Shared → Prop} {E : Value → Shared → Prop}
    (W : ItOk C A I wr items chk St Mid) (hst : St items.length s.heap) (r : Rel C σ s.heap) (m : Hold C wr σ s.heap) (hc : chk σ) (h : ∀ s₁, Step C (· ∈ wr) σ s σ s₁ → K none s₁) : wpAny C.M A (pyNext (.ref I)) K E s :=
  zb4 (W.done σ s hst r hc _ _ fun h' tk kk hsz => h _ (.wrote r m kk hsz))
theorem zjo {acc : Addr} {xs : List Value} {n : Nat} {x : Value} {K : Value → Shared → Prop} {E : Value → Shared → Prop} (r : Rel C σ s.heap) (hn : σ acc = none) (hb : C.base.get? acc = none) (hL : IsL s.heap acc xs.toArray n) (hz : xs.length ≤ zbb)
    (h : ∀ s', Step C (· = acc) σ s σ s' → (∃ n', IsL s'.heap acc (xs ++ [x]).toArray n') → K .none s') : wpAny C.M A (call (.builtin "list.append") [.ref acc, x]) K E s := by
  refine call_meets F.slot_list_append ⟨_, hL, rfl⟩ F.entry_list_append (F.args_list_append_2 _ _) (list_append acc xs.toArray n x (by simp only [List.size_toArray]; exact zd4 hz)) ⟨hL, ?_⟩
  refine h _ (Step.oneBut (t := s.toks) r ⟨Heap.size_update .., fun b hb => Heap.get?_update_other _ _ (Ne.symm hb)⟩ hn hb rfl hL (fun q => by have := q.1; injection this with this; exact absurd this (by decide))) ?_
  have := hL.update (·.push x)
  refine ⟨if (xs.toArray.push x).size == xs.toArray.size then n else n + 1, ?_⟩
  rw [show (xs ++ [x]).toArray = xs.toArray.push x by simp]
  exact this
theorem zjn {t : Tg} {v w : V} {ρ ρ' ρ₁ : Loc} (hn : (tgOf t).Nodup) (h : zbo t w ρ = some ρ') (h' : zbo t v ρ = some ρ₁) : zbo t v ρ' = some ρ₁ := by
  cases t with
  | one i =>
    simp only [zbo, Option.some.injEq] at h h' ⊢
    subst h; subst h'
    rw [List.set_set]
theorem zjj {I acc : Addr} {wr : List Addr} {items : List V} {chk : Store → Prop} {St : Nat → Heap → Prop} {Mid : Nat → Value → Heap → Prop} {cenv : Env} {S' : Sc} {t : Tg} {tg x y : Expr} {ifs : List Expr} {elt : Ex} {cond : ExO} {scope : Scope} {pos : Pos}
    {Q : V → Store → Prop} {R : Result → Shared → Prop} (W : ItOk C A I wr items chk St Mid) (U : Sur C k md Φ S' cenv) (helt : EvP C elt) (hcond : CoP C cond) (hT : zeW S' t tg = true) (hE : za8 S' elt x = true) (hC : zd9 S' cond ifs = true)
    (hmd : md = true)  (hP : ∀ id i, S'.own id i = true → i ∈ tgOf t → ∀ a, OwnAt cenv id a → a = cenv.locals) (hnd : (tgOf t).Nodup)
    (hwr : ∀ b ∈ wr, s.heap.objs.size ≤ b ∧ ¬ Own cenv b ∧ b ≠ acc) (hacc : s.heap.objs.size ≤ acc ∧ ¬ Own cenv acc) (hbacc : C.base.get? acc = none) (hloc : s.heap.objs.size ≤ cenv.locals) (low : Low A s.heap.objs.size)
    (hR : ∀ vs σ' s', (∃ i ρ₀, CInv C k md S' A cenv ρ₀ wr acc St σ s i vs σ' s') → Mine.alloc σ' (.list vs) Q → ∀ s'', Step C (· ∈ wr) σ' s' σ' s'' → R (.ok .next) s'') {i : Nat} {vs : List V} {σ₁ : Store} {s₁ : Shared} {ρ₀ : Loc} (hbind : ∀ v ρ₁, zbo t v ρ = some ρ₁ → zbo t v ρ₀ = some ρ₁)
    (inv : CInv C k md S' A cenv ρ₀ wr acc St σ s i vs σ₁ s₁) (hi : i ≤ items.length)
    (h : zcw chk (fun v σ₂ K => za9 (zbo t v ρ) fun ρ' => wpC Φ md cond ρ' σ₂ (fun b σ₃ => if b then wpE Φ md elt ρ' σ₃ (fun x σ₄ => K (some x) σ₄) noX else K none σ₃) noX) Q (items.drop i) vs σ₁) :
    codeAny C.M A (.compLoop (.ListComp x [⟨tg, y, ifs, 0⟩] scope pos) 0 (.ref I) (.ref acc) cenv) R s₁ := by
  refine zgm (fun n s' => ∃ i vs σ' ρ₀, (∀ v ρ₁, zbo t v ρ = some ρ₁ → zbo t v ρ₀ = some ρ₁) ∧ CInv C k md S' A cenv ρ₀ wr acc St σ s i vs σ' s' ∧ i ≤ items.length ∧ n = items.length - i ∧
    zcw chk (fun v σ₂ K => za9 (zbo t v ρ) fun ρ' => wpC Φ md cond ρ' σ₂ (fun b σ₃ => if b then wpE Φ md elt ρ' σ₃ (fun x σ₄ => K (some x) σ₄) noX else K none σ₃) noX) Q (items.drop i) vs σ') ?_ (items.length - i) ⟨i, vs, σ₁, ρ₀, hbind, inv, hi, rfl, h⟩
  clear h hi inv hbind
  intro n s' zz9
  refine ob40 zz9 ?_
  clear zz9
  intro i vs σ' ρ₀ hbind inv hi ee94
  subst ee94
  intro h
  by_cases hlt : i < items.length
  · rw [List.drop_eq_getElem_cons hlt] at h
    simp only [zcw] at h
    refine ob16 h ?_
    clear h
    intro hc hlen h
    refine ob7 (za6 h) ?_
    intro ρ' hb h
    refine W.next hlt inv.st inv.dyn.r inv.hold hc fun v s₁ hgo => hgo _ _ fun s₂ hv st hst' hold' => ?_
    have hOwr : ∀ a, Own cenv a → ¬ a ∈ wr := fun a ha hb => (hwr a hb).2.1 ha
    have d2 : Dyn C k md S' A cenv ρ₀ σ' s₂ := inv.dyn.apart (n := s.heap.objs.size) st low (fun a ha => (hwr a ha).1) hOwr
    refine ob17 inv.obj ?_
    intro xs n hL hX
    have hL2 : IsL s₂.heap acc xs.toArray n := (st.h.keep acc _ hL fun q => q.elim (fun z => z inv.accN) fun z => (hwr acc z).2.2 rfl).plain (fun es m q => by cases q)
    have inv2 : CInv C k md S' A cenv ρ₀ wr acc St σ s (i + 1) vs σ' s₂ := ⟨hst', hold', ⟨xs, n, hL2, st.vrs hX⟩, inv.len, zb9 st hL inv.accN, inv.step.trans (st.mono fun a ha => (hwr a ha).1), d2⟩
    refine zfd (P := fun a => a = cenv.locals) U d2 hT hv (hbind _ _ hb) (by cases t <;> first | rfl | exact hmd) hP fun s₃ st3 d3 => ?_
    have locO : Own cenv cenv.locals := .inl rfl
    have inv3 : CInv C k md S' A cenv ρ' wr acc St σ s (i + 1) vs σ' s₃ := inv2.no W st3 (fun b hb q => (hwr b hb).2.1 (q ▸ locO)) (fun q => hacc.2 (q ▸ locO)) (fun a q => q ▸ hloc) d3
    refine wpAny_mono (hcond U d3 hC h) (fun b s₄ h₄ => ?_) fun _ _ hx => False.elim hx
    refine ob7 h₄ ?_
    clear h₄
    intro σ₄ h st4
    have inv4 := inv3.no W st4 (fun _ _ f => f) (fun f => f) (fun _ f => f.elim) (d3.step st4)
    have hb' := hbind _ _ hb
    have hbn : ∀ v ρ₁, zbo t v ρ = some ρ₁ → zbo t v ρ' = some ρ₁ := fun v ρ₁ hv => zjn hnd hb hv
    cases b with
    | false => exact ⟨items.length - (i + 1), by lia, i + 1, vs, σ₄, ρ', hbn, inv4, hlt, rfl, h⟩
    | true =>
      refine wpAny_mono (helt U (d3.step st4) hE h) (fun y s₅ h₅ => ?_) fun _ _ hx => False.elim hx
      refine ob1 h₅ ?_
      clear h₅
      intro V σ₅ h hv5 st5
      have inv5 := inv4.no W st5 (fun _ _ f => f) (fun f => f) (fun _ f => f.elim) ((d3.step st4).step st5)
      refine ob17 inv5.obj ?_
      intro xs5 n5 hL5 hX5
      have e5 := hX5.length
      refine zjo inv5.dyn.r inv5.accN hbacc hL5 (by have := inv5.len; lia) fun s₆ st6 hL6 => ?_
      refine ob12 hL6 ?_
      clear hL6
      intro n6 hL6
      refine ob14 (inv5.hold.step st6 fun b hb q => (hwr b hb).2.2 q) ?_
      intro hold6 kp6
      have d6 : Dyn C k md S' A cenv ρ' σ₅ s₆ := inv5.dyn.apart (n := s.heap.objs.size) st6 low (fun a ha => ha ▸ hacc.1) fun a ha q => hacc.2 (q ▸ ha)
      refine ⟨items.length - (i + 1), by lia, i + 1, vs ++ [V], σ₅, ρ', hbn, ⟨W.frame _ _ _ inv5.st st6.h.tup kp6, hold6, ⟨xs5 ++ [y], n6, hL6, (st6.vrs hX5).append (.cons (st6.vr hv5) .nil)⟩, ?_, inv5.accN, inv5.step.trans (st6.mono fun a ha => ha ▸ hacc.1), d6⟩, hlt, rfl, h⟩
      simp only [List.length_append, List.length_cons, List.length_nil]; lia
  · have hi' : i = items.length := by lia
    subst hi'
    rw [List.drop_length] at h
    simp only [zcw] at h
    exact W.stop inv.st inv.dyn.r inv.hold h.1 fun s₁ st => hR vs σ' s' ⟨_, _, inv⟩ h.2 s₁ st
/- a comprehension's block -/
noncomputable def clOf (env : Env) (names : List (Str × NameKind)) : List (Str × Addr) := ((names.filter fun x => x.2 == .free).map fun x => (x.1, (env.cells.lookup x.1).getD 0)).reverse
theorem zfQ (f : Str × NameKind → List (Str × Addr) → Sem (ForInStep (List (Str × Addr))))
    (hf : ∀ name kind cs, f (name, kind) cs = if kind == .free then (do let a ← cellOf env name; pure (.yield ((name, a) :: cs))) else pure (.yield cs)) :
    ∀ (names : List (Str × NameKind)) (acc : List (Str × Addr)), (∀ x ∈ names, x.2 = .free → (env.cells.lookup x.1).isSome = true) → forIn names acc f = (pure (clOf env names ++ acc) : Sem _)
  | [], acc, _ => rfl
  | (n, kd) :: r, acc, h => by
    rw [List.forIn_cons, hf]
    have ih := fun acc => zfQ f hf r acc fun x hx => h x (List.mem_cons_of_mem _ hx)
    by_cases hk : kd = .free
    · subst hk
      refine ob12 (Option.isSome_iff_exists.mp (h (n, .free) List.mem_cons_self rfl)) ?_
      intro c hc
      have e : cellOf env n = pure c := by unfold cellOf; rw [hc]
      rw [if_pos (by rfl), e]
      show forIn r ((n, c) :: acc) f = _
      rw [ih]
      simp [clOf, hc]
    · rw [if_neg (by simpa using hk)]
      show forIn r acc f = _
      rw [ih]
      have : (kd == NameKind.free) = false := by simpa using hk
      simp [clOf, this]
theorem zjl {scope : Scope} (h : ∀ x ∈ scope.names, x.2 = .free → (env.cells.lookup x.1).isSome = true) : closureFor scope env = pure (clOf env scope.names) := by
  have key : forIn scope.names [] (fun (x : Str × NameKind) (cs : List (Str × Addr)) => match x with
      | (name, kind) => if (kind == NameKind.free) = true then (do let a ← cellOf env name; pure (ForInStep.yield ((name, a) :: cs))) else pure (ForInStep.yield cs)) = (pure (clOf env scope.names ++ []) : Sem _) :=
    zfQ _ (fun _ _ _ => rfl) scope.names [] h
  rw [List.append_nil] at key
  unfold closureFor
  exact congrArg (fun m : Sem (List (Str × Addr)) => m >>= fun cs => pure cs) key
theorem zg0 {α : Type} (f : Str → α) : ∀ (l : List Str) (n : Str), (l.map fun x => (x, f x)).lookup n = if n ∈ l then some (f n) else none
  | [], n => by simp
  | m :: l, n => by
    rw [List.map_cons, List.lookup_cons]
    by_cases h : n = m
    · subst h; simp
    · rw [beq_eq_false_iff_ne.mpr h, zg0 f l n]
      simp [h]
theorem zd0 {names : List (Str × NameKind)} {n : Str} : (clOf env names).lookup n = if (n, NameKind.free) ∈ names then some ((env.cells.lookup n).getD 0) else none := by
  have e : clOf env names = (((names.filter fun x => x.2 == .free).map (·.1)).reverse).map fun x => (x, (env.cells.lookup x).getD 0) := by
    unfold clOf
    rw [List.map_reverse, List.map_map]; rfl
  rw [e, zg0]
  have : (n ∈ ((names.filter fun x => x.2 == .free).map (·.1)).reverse) ↔ (n, NameKind.free) ∈ names := by
    simp only [List.mem_reverse, List.mem_map, List.mem_filter, beq_iff_eq]
    constructor
    · intro zz10
      refine lift fun gg back => ?_
      obtain ⟨⟨a, b⟩, ⟨h1, h2⟩, h3⟩ := zz10
      refine back ?_
      clear back gg
      simp only at h2 h3
      subst h2; subst h3; exact h1
    · intro h; exact ⟨_, ⟨h, rfl⟩, rfl⟩
  by_cases h : (n, NameKind.free) ∈ names
  · rw [if_pos (this.mpr h), if_pos h]
  · rw [if_neg (fun q => h (this.mp q)), if_neg h]
theorem zi9 {names : List (Str × NameKind)} (hn : (names.map (·.1)).Nodup) {n : Str} {kd : NameKind} (h : (n, kd) ∈ names) : names.lookup n = some kd := by
  induction names with
  | nil => cases h
  | cons x r ih =>
    obtain ⟨m, j⟩ := x
    simp only [List.map_cons, List.nodup_cons] at hn
    rcases List.mem_cons.mp h with e | h
    · cases e; simp [List.lookup_cons]
    · have : n ≠ m := fun e => hn.1 (e ▸ List.mem_map_of_mem (f := (·.1)) h)
      rw [List.lookup_cons, beq_eq_false_iff_ne.mpr this]
      exact ih hn.2 h
theorem zee {names : List (Str × NameKind)} {n : Str} {kd : NameKind} (h : names.lookup n = some kd) : (n, kd) ∈ names := PySem.mem_of_lookup h
theorem zf8 {out names : List (Str × NameKind)} {n : Str} {kd : NameKind} (h : (n, kd) ∈ relN out names) : ∃ kd₀, (n, kd₀) ∈ names ∧ (kd = kd₀ ∨ (kd₀ = .free ∧ kd = .cell)) := by
  unfold relN at h
  refine lift fun gg back => ?_
  obtain ⟨⟨m, j⟩, hm, e⟩ := List.mem_map.mp h
  refine back ?_
  clear back gg
  dsimp only at e
  split at e
  · rename_i hc
    cases e
    simp only [Bool.and_eq_true, beq_iff_eq] at hc
    exact ⟨j, hm, .inr ⟨hc.1, rfl⟩⟩
  · cases e; exact ⟨_, hm, .inl rfl⟩
theorem zi3 {out names : List (Str × NameKind)} {n : Str} (h : names.lookup n = some .local) : (relN out names).lookup n = some .local := by
  induction names with
  | nil => simp at h
  | cons x r ih =>
    obtain ⟨m, j⟩ := x
    rw [List.lookup_cons] at h
    show List.lookup n ((if j == .free && out.lookup m == some .cell then (m, .cell) else (m, j)) :: relN out r) = _
    cases hb : n == m with
    | true =>
      rw [hb] at h; cases h
      simp [List.lookup_cons, hb]
    | false =>
      rw [hb] at h
      split
      · rw [List.lookup_cons, hb]; exact ih h
      · rw [List.lookup_cons, hb]; exact ih h
structure CompOk (S : Sc) (bs : List (String × Nat)) (scope : Scope) : Prop where
  kind : scope.kind = .function
  nodup : (scope.names.map (·.1)).Nodup
  names : ∀ n kd, (n, kd) ∈ scope.names → (kd = .local ∧ (n = (".0" : Str) ∨ ∃ p ∈ bs, Str.ofString p.1 = n)) ∨ (kd = .free ∧ (S.names.lookup n = some .cell ∨ S.names.lookup n = some .free)) ∨ kd = .globalImplicit
  zero : ∀ q ∈ bs ++ S.nm, Str.ofString q.1 ≠ (".0" : Str)
  nm : (bs.map (·.1)).Nodup
  idx : (bs.map (·.2)).Nodup
  bs : ∀ p ∈ bs, scope.names.lookup (Str.ofString p.1) = some .local ∧ p.2 < S.size ∧ ∀ q ∈ S.nm, q.2 ≠ p.2
theorem zhX {bs : List (String × Nat)} {scope : Scope} (h : ziw S bs scope = true) : CompOk S bs scope := by
  unfold ziw at h
  simp only [Bool.and_eq_true, beq_iff_eq, decide_eq_true_eq, List.all_eq_true, bne_iff_ne] at h
  refine ob41 h ?_
  clear h
  intro h1 h2 h3 h4 h5 h6 h7
  refine ⟨h1, h2, fun n kd hm => ?_, h4, h5, h6, fun p hp => ⟨(h7 p hp).1.1, (h7 p hp).1.2, (h7 p hp).2⟩⟩
  have := h3 (n, kd) hm
  dsimp only at this
  cases kd with
  | «local» =>
    simp only [Bool.or_eq_true, decide_eq_true_eq, List.any_eq_true] at this
    exact .inl ⟨rfl, this⟩
  | free =>
    simp only [Bool.or_eq_true, beq_iff_eq] at this
    exact .inr (.inl ⟨rfl, this⟩)
  | globalImplicit => exact .inr (.inr rfl)
  | _ => cases this
theorem zbs : ∀ {l : List (String × Nat)} {x : String} {i : Nat}, l.lookup x = some i → (x, i) ∈ l
  | (y, j) :: r, x, i, h => by
    rw [List.lookup_cons] at h
    cases hb : x == y with
    | true => rw [hb] at h; cases h; rw [beq_iff_eq.mp hb]; exact List.mem_cons_self
    | false => rw [hb] at h; exact List.mem_cons_of_mem _ (zbs h)
theorem zfG : ∀ {l : List (String × Nat)} {x : String}, x ∈ l.map (·.1) → ∃ i, l.lookup x = some i
  | (y, j) :: r, x, h => by
    rw [List.lookup_cons]
    cases hb : x == y with
    | true => exact ⟨j, rfl⟩
    | false =>
      rcases List.mem_cons.mp h with e | h
      · rw [e] at hb; simp at hb
      · exact zfG h
theorem zmG {l : List (String × Nat)} (hn : (l.map (·.2)).Nodup) {x y : String} {i : Nat} (hx : (x, i) ∈ l) (hy : (y, i) ∈ l) : x = y := by
  induction l with
  | nil => cases hx
  | cons p r ih =>
    simp only [List.map_cons, List.nodup_cons] at hn
    rcases List.mem_cons.mp hx with e | hx <;> rcases List.mem_cons.mp hy with e' | hy
    · rw [← e'] at e; exact (Prod.mk.inj e).1
    · exact absurd (List.mem_map_of_mem (f := (·.2)) hy) (by rw [← e] at hn; exact hn.1)
    · exact absurd (List.mem_map_of_mem (f := (·.2)) hx) (by rw [← e'] at hn; exact hn.1)
    · exact ih hn.2 hx hy
theorem zcb {bs nm : List (String × Nat)} {x : String} {i : Nat} (h : (bs ++ nm).lookup x = some i) : bs.lookup x = some i ∨ (bs.lookup x = none ∧ nm.lookup x = some i) := by
  rw [List.lookup_append] at h
  cases hb : bs.lookup x with
  | none => rw [hb] at h; exact .inr ⟨rfl, h⟩
  | some j => rw [hb] at h; cases h; exact .inl rfl
theorem zm1 {bs : List (String × Nat)} {scope : Scope} (K : CompOk S bs scope) (h : NmOk S.nm S.size) : NmOk (bs ++ S.nm) S.size := by
  refine ⟨fun x y i hx hy => ?_, fun x i hx => ?_⟩
  · rcases zcb hx with hx | ⟨_, hx⟩ <;> rcases zcb hy with hy | ⟨_, hy⟩
    · exact zmG K.idx (zbs hx) (zbs hy)
    · exact absurd rfl ((K.bs (x, i) (zbs hx)).2.2 (y, i) (zbs hy))
    · exact absurd rfl ((K.bs (y, i) (zbs hy)).2.2 (x, i) (zbs hx))
    · exact h.1 x y i hx hy
  · rcases zcb hx with hx | ⟨_, hx⟩
    · exact (K.bs _ (zbs hx)).2.1
    · exact h.2 x i hx
theorem ziv {bs : List (String × Nat)} {scope : Scope} {L : Addr} (U : Sur C k md Φ S env) (K : CompOk S bs scope) : EnvS (zcI S bs scope.names) (compEnvC scope (clOf env scope.names) L env) := by
  have hrel : (relabel scope env).names = relN S.names scope.names := by
    unfold relabel relN
    dsimp only
    refine List.map_congr_left fun x _ => ?_
    obtain ⟨n, kd⟩ := x
    dsimp only
    rw [U.ev.kind, U.ev.kindOf, show (ScopeKind.function == ScopeKind.function) = true from rfl, Bool.and_true]
  refine ⟨⟨K.kind, U.ev.globals, U.ev.builtins⟩, hrel, zm1 K U.ev.nm, fun x hx => ?_⟩
  show ((clOf env scope.names).lookup x).isSome = true
  have : (x, NameKind.free) ∈ scope.names := by
    rcases hx with hx | hx
    · refine ob7 (zf8 (zee hx)) ?_
      intro kd₀ hm e
      rcases e with rfl | ⟨rfl, _⟩
      · rcases K.names _ _ hm with ⟨e, _⟩ | ⟨e, _⟩ | e <;> cases e
      · exact hm
    · refine ob7 (zf8 (zee hx)) ?_
      intro kd₀ hm e
      rcases e with rfl | ⟨rfl, e⟩
      · exact hm
      · cases e
  rw [zd0, if_pos this]; rfl
noncomputable def zdP (bs : List (String × Nat)) (ρ : Loc) : Loc := bs.foldl (fun r p => r.set p.2 none) ρ
theorem unbind_len : ∀ {bs : List (String × Nat)} {ρ : Loc}, (zdP bs ρ).length = ρ.length
  | [], _ => rfl
  | p :: r, ρ => by rw [zdP, List.foldl_cons]; exact (unbind_len (bs := r)).trans (by simp)
theorem zfy : ∀ {bs : List (String × Nat)} {ρ : Loc} {i : Nat} {v : V}, (zdP bs ρ).get i = some v → ρ.get i = some v ∧ i ∉ bs.map (·.2)
  | [], _, _, _, h => ⟨h, by simp⟩
  | p :: r, ρ, i, v, h => by
    rw [zdP, List.foldl_cons] at h
    refine ob14 (zfy (bs := r) h) ?_
    intro h1 h2
    by_cases e : i = p.2
    · subst e
      by_cases hl : p.2 < ρ.length
      · rw [Loc.get_set_self hl] at h1; cases h1
      · simp [Loc.get, hl] at h1
    · rw [Loc.get_set_ne e] at h1
      exact ⟨h1, by simp only [List.map_cons, List.mem_cons, not_or]; exact ⟨e, h2⟩⟩
theorem zhx {t : Tg} {bs : List (String × Nat)} {v : V} {ρ₁ : Loc} (hn : (tgOf t).Nodup) (ht : tgOf t = bs.map (·.2)) (h : zbo t v ρ = some ρ₁) : zbo t v (zdP bs ρ) = some ρ₁ := by
  have comm : ∀ {is : List Nat} {i : Nat} {ρ : Loc} {u : Option V}, i ∉ is → (is.foldl (fun r j => r.set j none) ρ).set i u = is.foldl (fun r j => r.set j none) (ρ.set i u) := by
    intro is
    induction is with
    | nil => intros; rfl
    | cons j is ih =>
      intro i ρ u hi
      simp only [List.mem_cons, not_or] at hi
      simp only [List.foldl_cons]
      rw [ih hi.2, List.set_comm _ _ (Ne.symm hi.1)]
  have many : ∀ {is : List Nat} {vs : List V} {ρ : Loc}, is.Nodup → is.length = vs.length → (is.zip vs).foldl (fun r p => r.set p.1 (some p.2)) (is.foldl (fun r j => r.set j none) ρ) = (is.zip vs).foldl (fun r p => r.set p.1 (some p.2)) ρ := by
    intro is
    induction is with
    | nil => intros; rfl
    | cons j is ih =>
      intro vs ρ hn hl
      cases vs with
      | nil => simp at hl
      | cons v vs =>
        simp only [List.nodup_cons] at hn
        simp only [List.zip_cons_cons, List.foldl_cons]
        rw [comm hn.1, List.set_set, ih hn.2 (by simpa using hl)]
  have eu : zdP bs ρ = (bs.map (·.2)).foldl (fun r j => r.set j none) ρ := by unfold zdP; rw [List.foldl_map]
  rw [eu, ← ht]
  cases t with
  | one i =>
    simp only [zbo, Option.some.injEq, tgOf, List.foldl_cons, List.foldl_nil] at h ⊢
    subst h
    rw [List.set_set]
theorem zm2 {bs : List (String × Nat)} {scope : Scope} {L : Addr} {m : Str → Option Value} (U : Sur C k md Φ S env) (K : CompOk S bs scope) (l : LR C σ s.heap env S.nm ρ) (hN : s.heap.Ns L m) (hσ : σ L = none) (hb : C.base.get? L = none) :
    LR C σ s.heap (compEnvC scope (clOf env scope.names) L env) (bs ++ S.nm) (zdP bs ρ) := by
  have ES := ziv (L := L) U K
  have cl : ∀ {x c}, (clOf env scope.names).lookup x = some c → (x, NameKind.free) ∈ scope.names ∧ env.cells.lookup x = some c := fun {x c} h => by
    rw [zd0] at h
    split at h
    · rename_i hf
      refine ⟨hf, ?_⟩
      rcases K.names _ _ hf with ⟨e, _⟩ | ⟨_, hx⟩ | e
      · cases e
      · refine ob12 (Option.isSome_iff_exists.mp (U.ev.cells x hx)) ?_
        intro c' hc'
        rw [hc'] at h ⊢
        exact h
      · cases e
    · cases h
  refine ⟨fun x i v hx hv => ?_, ⟨m, hN⟩, ⟨hσ, hb⟩, fun x c hc => l.cells x c (cl hc).2, fun x y c hx hy => l.apart x y c (cl hx).2 (cl hy).2⟩
  refine ob14 (zfy hv) ?_
  intro hv hni
  rcases zcb hx with hx | ⟨hxn, hx⟩
  · exact absurd (List.mem_map_of_mem (f := (·.2)) (zbs hx)) hni
  have hold := l.holds x i v hx hv
  have kk := ES.kindOf (Str.ofString x)
  unfold Holds at hold ⊢
  rw [kk]
  have free : (zcI S bs scope.names).names.lookup (Str.ofString x) = some .cell ∨ (zcI S bs scope.names).names.lookup (Str.ofString x) = some .free → ∃ c u, (clOf env scope.names).lookup (Str.ofString x) = some c ∧ s.heap.IsCell c (some u) ∧ VR s.heap v u := fun hx' => by
    refine ob12 (Option.isSome_iff_exists.mp (ES.cells _ hx')) ?_
    intro c hc
    refine ob14 (cl hc) ?_
    intro hf hc'
    rcases K.names _ _ hf with ⟨e, _⟩ | ⟨_, hy⟩ | e
    · cases e
    · rw [U.ev.kindOf] at hold
      rcases hy with hy | hy
      · rw [hy] at hold
        refine ob1 hold ?_
        clear hold
        intro c₁ u h1 h2 h3
        rw [hc'] at h1; cases h1
        exact ⟨c, u, hc, h2, h3⟩
      · rw [hy] at hold
        refine ob1 hold ?_
        clear hold
        intro c₁ u h1 h2 h3
        rw [hc'] at h1; cases h1
        exact ⟨c, u, hc, h2, h3⟩
    · cases e
  split
  · rename_i hk
    exfalso
    refine ob7 (zf8 (zee hk)) ?_
    intro kd₀ hm e
    rcases e with rfl | ⟨rfl, e⟩
    · rcases K.names _ _ hm with ⟨_, e | ⟨p, hp, e⟩⟩ | ⟨e, _⟩ | e
      · exact K.zero (x, i) (List.mem_append_right _ (zbs hx)) e
      · have := ofString_inj e
        obtain ⟨j, hj⟩ := zfG (l := bs) (x := x) (by rw [← this]; exact List.mem_map_of_mem (f := (·.1)) hp)
        rw [hxn] at hj; cases hj
      · cases e
      · cases e
    · cases e
  · rename_i hk; exact free (.inl hk)
  · rename_i hk; exact free (.inr hk)
  · trivial
noncomputable def CEnd (C : Cx) (σ : Store) (s : Shared) (Q : V → Store → Prop) (acc L : Addr) (s' : Shared) : Prop :=
  ∃ σ', Q (.ref acc) σ' ∧ Step C No σ s σ' s' ∧ (∃ m, s'.heap.Ns L m) ∧ σ' L = none ∧ C.base.get? L = none ∧ s.heap.objs.size ≤ L
theorem zhc {bs : List (String × Nat)} {elt it : Ex} {t : Tg} {cond : ExO} {x y tg : Expr} {ifs : List Expr} {scope : Scope} {pos : Pos} {Q : V → Store → Prop} {E : Value → Shared → Prop} {use : Option (Value → Sem Unit)} {QQ : Value → Shared → Prop}
    (hit : ItP C it) (helt : EvP C elt) (hcond : CoP C cond) (U : Sur C k md Φ S env) (d : Dyn C k md S A env ρ σ s) (hm : za8 S (.comp bs elt t it cond) (.ListComp x [⟨tg, y, ifs, 0⟩] scope pos) = true)
    (h : wpE Φ md (.comp bs elt t it cond) ρ σ Q X) (hE : ∀ v s', PostX C σ s X v s' → E v s')
    (hend : ∀ acc L s', CEnd C σ s Q acc L s' → compPost C.M A E use QQ (.ref acc) L (.ok .next) s') :
    wpAny C.M A (comprehension (.ListComp x [⟨tg, y, ifs, 0⟩] scope pos) scope env y.pos (newList []) false (eval y env) use) QQ E s := by
  have hm : (ziw S bs scope && zeW (zcI S bs scope.names) t tg && decide (tgOf t = bs.map (·.2)) && za8 S it y && za8 (zcI S bs scope.names) elt x && zd9 (zcI S bs scope.names) cond ifs && decide ((0 : Int) = 0)) = true := hm
  simp only [Bool.and_eq_true, decide_eq_true_eq] at hm
  rw [zkR] at h
  replace h := zd7 h
  refine ob41 hm ?_
  clear hm
  intro hK hT htt h1 h2 h3 _
  refine ob14 h ?_
  clear h
  intro hmd h
  have K := zhX hK
  have hfree : ∀ z ∈ scope.names, z.2 = .free → (env.cells.lookup z.1).isSome = true := fun z hz hf => by
    obtain ⟨n, kd⟩ := z
    simp only at hf
    subst hf
    rcases K.names _ _ hz with ⟨e, _⟩ | ⟨_, hy⟩ | e
    · cases e
    · exact U.ev.cells n hy
    · cases e
  refine wpAny_comprehension_free (cl := clOf env scope.names) rfl (fun v => zha h1 v) (zjl hfree) K.kind (fun z hz hl => zi9 K.nodup (by obtain ⟨n, kd⟩ := z; simp only at hl; subst hl; exact hz)) ?_
  refine wpAny_mono (hit U d h1 hmd h) (fun v s₁ h₁ => wpAny_mono h₁ (fun v s₂ h₂ => ?_) fun _ _ hx => hE _ _ hx) fun _ _ hx => hE _ _ hx
  refine ob42 h₂ ?_
  clear h₂
  intro I wr items chk St Mid σ₁ ee95
  subst ee95
  intro W hst hold hwr st q
  refine wpAny_newList ?_ (by simp [sizeLine_eq])
  refine wpAny_newFunctionEnv (fun z hz e => ?_) (fun z hz => by cases hz) (fun h' hN hs => ?_) K.kind
  · obtain ⟨n, kd⟩ := z
    simp only at e
    subst e
    rcases K.names _ _ hz with ⟨e, _⟩ | ⟨e, _⟩ | e <;> cases e
  have hsz3 : (s₂.heap.push { cls := .type "list", data := .seq #[] }).objs.size = s₂.heap.objs.size + 1 := Heap.size_push ..
  generalize hacc : s₂.heap.objs.size = acc at hsz3 ⊢
  have hLe : ({ s₂ with heap := s₂.heap.push { cls := .type "list", data := .seq ([] : List Value).toArray } } : Shared).heap.objs.size = acc + 1 := hsz3
  rw [hLe] at hN hs ⊢
  show codeAny C.M A (.compStart _ 0 (.ref I) (.ref acc) (compEnvC scope (clOf env scope.names) (acc + 1) env)) _ _
  have kp : ∀ b o, s₂.heap.get? b = some o → h'.get? b = some o := fun b o e => by
    have hlt := Heap.lt_size e
    rw [hacc] at hlt
    rw [hs.2 b (Nat.ne_of_lt (Nat.lt_succ_of_lt hlt))]
    exact zbd _ _ (zbd _ _ e)
  have hsz : s₂.heap.objs.size ≤ h'.objs.size := by
    rw [hs.1, Heap.size_push, Heap.size_push]; lia
  have stg : Step C No σ₁ s₂ σ₁ { s₂ with heap := h', toks := s₂.toks + ([] : List (Str × Value)).length } := .grow st.rel kp hsz
  have st4 := st.trans stg
  have hss := st.h.size
  have d4 := d.step st4
  have haccO : h'.get? acc = some (seqObj "list" ([] : List Value).toArray 0) := by
    rw [hs.2 acc (Nat.ne_of_lt (Nat.lt_succ_self _))]
    refine zbd _ _ ?_
    rw [← hacc]; exact Heap.get?_push_size _ rfl
  have sacc : s.heap.objs.size ≤ acc := hacc ▸ hss
  have naccσ : σ₁ acc = none := st.rel.none_of_ge (Nat.le_of_eq hacc)
  have nLσ : σ₁ (acc + 1) = none := st.rel.none_of_ge (by rw [hacc]; exact Nat.le_succ _)
  have nLb : C.base.get? (acc + 1) = none := zbN st.rel (by rw [hacc]; exact Nat.le_succ _)
  have naccb : C.base.get? acc = none := zbN st.rel (Nat.le_of_eq hacc)
  have U' : Sur C k md Φ (zcI S bs scope.names) (compEnvC scope (clOf env scope.names) (acc + 1) env) := ⟨U.X, U.ca, ziv U K⟩
  have d' : Dyn C k md (zcI S bs scope.names) A (compEnvC scope (clOf env scope.names) (acc + 1) env) (zdP bs ρ) σ₁ { s₂ with heap := h', toks := s₂.toks + ([] : List (Str × Value)).length } :=
    ⟨d4.a, d4.r, zm2 U K d4.l hN nLσ nLb, unbind_len.trans d.len⟩
  refine ob14 (hold.step stg fun _ _ f => f) ?_
  intro hold4 kp4
  -- the cells of the outer block are old
  have cellOld : ∀ c, Own (compEnvC scope (clOf env scope.names) (acc + 1) env) c → c = acc + 1 ∨ c < s.heap.objs.size := fun c hc => by
    rcases hc with rfl | ⟨n, hc⟩
    · exact .inl rfl
    · right
      have hc : (clOf env scope.names).lookup n = some c := hc
      have hc' : env.cells.lookup n = some c := by
        rw [zd0] at hc
        split at hc
        · rename_i hf
          refine ob12 (Option.isSome_iff_exists.mp (hfree _ hf rfl)) ?_
          intro c' hc'
          rw [hc'] at hc ⊢; exact hc
        · cases hc
      refine ob10 (d.l.cells n c hc') ?_
      intro v o ho _ _
      exact Heap.lt_size ho
  have wrLt : ∀ b ∈ wr, b < acc := fun b hb => by
    refine ob7 (hold.at_ b hb) ?_
    intro o ho _
    exact hacc ▸ Heap.lt_size ho
  have inv : CInv C k md (zcI S bs scope.names) A (compEnvC scope (clOf env scope.names) (acc + 1) env) (zdP bs ρ) wr acc St σ s 0 [] σ₁ { s₂ with heap := h', toks := s₂.toks + ([] : List (Str × Value)).length } :=
    ⟨W.frame 0 _ _ hst stg.h.tup kp4, hold4, ⟨[], 0, haccO, .nil⟩, Nat.zero_le _, naccσ, st4.no, d'⟩
  have hnd : (tgOf t).Nodup := htt ▸ K.idx
  have loop : codeAny C.M A (.compLoop (.ListComp x [⟨tg, y, ifs, 0⟩] scope pos) 0 (.ref I) (.ref acc) (compEnvC scope (clOf env scope.names) (acc + 1) env)) (compPost C.M A E use QQ (.ref acc) (acc + 1))
      { s₂ with heap := h', toks := s₂.toks + ([] : List (Str × Value)).length } := by
    refine zjj (y := y) (ρ := ρ) (t := t) (Q := Q) W U' helt hcond hT h2 h3 hmd (fun id i ho hi a ha => ?_) hnd (fun b hb => ⟨hwr b hb, fun ho => ?_, Nat.ne_of_lt (wrLt b hb)⟩) ⟨sacc, fun ho => ?_⟩ naccb
      (Nat.le_succ_of_le sacc) d.a.low (fun vs σ' s' hinv hal s'' stw => ?_) (fun v ρ₁ hb => zhx hnd htt hb) inv (Nat.zero_le _) q
    · rcases ha with ⟨_, rfl⟩ | ⟨hk, _⟩
      · rfl
      · exfalso
        refine ob2 (Sc.own_elim ho) ?_
        intro n ee96
        subst ee96
        intro hn _
        rw [U'.ev.kindOf] at hk
        rcases zcb hn with hn' | ⟨_, hn'⟩
        · have := zi3 (out := S.names) (K.bs _ (zbs hn')).1
          have hk' : (relN S.names scope.names).lookup (Str.ofString n) = some .cell := hk
          rw [this] at hk'; cases hk'
        · rw [htt] at hi
          refine ob7 (List.mem_map.mp hi) ?_
          intro p hp hpe
          exact (K.bs p hp).2.2 _ (zbs hn') hpe.symm
    · rcases cellOld b ho with e | e
      · exact absurd (wrLt b hb) (by rw [e]; exact Nat.not_lt.mpr (Nat.le_succ _))
      · exact absurd (hwr b hb) (Nat.not_le.mpr e)
    · rcases cellOld acc ho with e | e
      · exact absurd e (Nat.ne_of_lt (Nat.lt_succ_self _))
      · exact absurd sacc (Nat.not_le.mpr e)
    · refine ob18 hinv ?_
      clear hinv
      intro i ρ₀ inv'
      have dEnd : Dyn C k md (zcI S bs scope.names) A (compEnvC scope (clOf env scope.names) (acc + 1) env) ρ₀ σ' s'' := inv'.dyn.apart (n := s.heap.objs.size) stw d.a.low (fun a ha => hwr a ha) fun a ha hb => by
        rcases cellOld a ha with e | e
        · exact absurd (wrLt a hb) (by rw [e]; exact Nat.not_lt.mpr (Nat.le_succ _))
        · exact absurd (hwr a hb) (Nat.not_le.mpr e)
      refine ob17 inv'.obj ?_
      intro xs n hL hX
      have hL' : IsL s''.heap acc xs.toArray n := (stw.h.keep acc _ hL fun z => z.elim (fun z => z inv'.accN) fun z => absurd (wrLt acc z) (Nat.lt_irrefl _)).plain (fun es m q => by cases q)
      have tot : Step C (fun a => s.heap.objs.size ≤ a) σ s σ' s'' := inv'.step.trans (stw.mono fun a ha => hwr a ha)
      have hbb : C.base.objs.size ≤ acc := Nat.le_trans d.r.size sacc
      have fin : Step C No σ s (σ'.upd acc (.list vs)) s'' := (tot.adopt (o := .list vs) sacc inv'.accN ⟨xs, n, hL', stw.vrs hX, inv'.len⟩ hbb).drop fun a ha => ha
      refine hend acc (acc + 1) s'' ⟨_, hal acc inv'.accN, fin, dEnd.l.locals, ?_, nLb, Nat.le_succ_of_le sacc⟩
      rw [zcy (Nat.succ_ne_self _)]
      exact dEnd.l.lnew.1
  exact codeAny_compStart_list loop (W.self 0 _ _ _ inv.st loop)
theorem CEnd.after {Q : V → Store → Prop} {acc L : Addr} {h' : Heap} (x : CEnd C σ s Q acc L s') (hs : Heap.SameBut L s'.heap h') : PostV C σ s Q (.ref acc) { s' with heap := h' } := by
  refine ob43 x ?_
  clear x
  intro σ' q st m o es ep ho hd _ hn hb hl
  have st2 : Step C (· = L) σ' s' σ' { s' with heap := h' } := Step.oneBut (t := s'.toks) st.rel hs hn hb rfl ho fun ⟨_, _, _, q⟩ => by rw [hd] at q; cases q
  exact ⟨_, σ', q, .ref, ((st.no (D := fun a => s.heap.objs.size ≤ a)).trans (st2.mono fun a e => e ▸ hl)).drop fun _ h => h⟩
theorem zfN {bs : List (String × Nat)} {elt it : Ex} {t : Tg} {cond : ExO} {x : Expr} (hm : za8 S (.comp bs elt t it cond) x = true) : ∃ y tg z ifs scope pos, x = .ListComp y [⟨tg, z, ifs, 0⟩] scope pos := by
  refine lcME hm ?_
  intro y gs scope pos hm
  refine l1E hm ?_
  intro g hm
  simp only [Bool.and_eq_true, decide_eq_true_eq] at hm
  have ha := hm.2
  refine lift fun gg back => ?_
  obtain ⟨tg, z, ifs, as⟩ := g
  refine back ?_
  clear back gg
  cases ha
  exact ⟨_, _, _, _, _, _, rfl⟩
theorem zmR {bs : List (String × Nat)} {elt it : Ex} {t : Tg} {cond : ExO} (hit : ItP C it) (helt : EvP C elt) (hcond : CoP C cond) : EvP C (.comp bs elt t it cond) := by
  intro k md Φ S x env A ρ σ s Q X U d hm h
  refine ob44 (zfN hm) ?_
  intro y tg z ifs scope pos ee97
  subst ee97
  rw [eval_ListComp]
  refine zhc (use := none) hit helt hcond U d hm h (fun _ _ hx => hx) fun acc L s' hc => ?_
  have hc' := hc
  refine ob4 hc' ?_
  clear hc'
  intro σ' q st hm _
  refine ob12 hm ?_
  clear hm
  intro m hm
  exact ⟨m, hm, fun h' hs => hc.after hs⟩
/- all expressions -/
noncomputable def Both (C : Cx) (e : Ex) : Prop := EvP C e ∧ TrP C e ∧ ItP C e
noncomputable def zoo (C : Cx) (es : Exs) : Prop := EvsP C es ∧ BoP C es ∧ BtP C es
noncomputable def zop (C : Cx) (o : ExO) : Prop := EvoP C o ∧ CoP C o
theorem zie {e : Ex} (he : EvP C e) (hx : ∀ S x env, za8 S e x = true → isTrue x env (eval x env) = (do let v ← eval x env; standAt x.pos; holding [v] (PySem.truthy v))) : TrP C e := by
  intro k md Φ S x env A ρ σ s Q X U d hm h hq
  exact zn0 he U d hm h hq (hx S x env hm)
theorem zbr {e : Ex} (he : EvP C e) (hx : ∀ S x env, za8 S e x = true → isTrue x env (eval x env) = (do let v ← eval x env; standAt x.pos; holding [v] (PySem.truthy v))) (hw : ∀ Φ md ρ σ Q X, wpIt Φ md e ρ σ Q X = wpE Φ md e ρ σ (fun u σ₁ => zcY u σ₁ fun items chk => Q items chk σ₁) X) : Both C e :=
  ⟨he, zie he hx, zjf he hw⟩
theorem zgd {e : Ex} (h : ∀ Φ md ρ σ Q X, wpE Φ md e ρ σ Q X = False) : EvP C e := by
  intro k md Φ S x env A ρ σ s Q X U d hm hw
  rw [h] at hw; exact hw.elim
theorem zeT {e : Ex} (h : ∀ Φ md ρ σ Q X, wpE Φ md e ρ σ Q X = False) : TrP C e := by
  intro k md Φ S x env A ρ σ s Q X U d hm hw
  rw [h] at hw; exact hw.elim
mutual
theorem zbm : ∀ e : Ex, Both C e
  | .none => zbr zmL (fun S x env hm => (cME hm fun _ _ _ _ => rfl)) fun _ _ _ _ _ _ => rfl
  | .tt => zbr zoc (fun S x env hm => (cME hm fun _ _ _ _ => rfl)) fun _ _ _ _ _ _ => rfl
  | .ff => zbr zoe (fun S x env hm => (cME hm fun _ _ _ _ => rfl)) fun _ _ _ _ _ _ => rfl
  | .int _ => zbr znM (fun S x env hm => (cME hm fun _ _ _ _ => rfl)) fun _ _ _ _ _ _ => rfl
  | .str _ => zbr znJ (fun S x env hm => (cME hm fun _ _ _ _ => rfl)) fun _ _ _ _ _ _ => rfl
  | .var _ => zbr znI (fun S x env hm => (nmME hm fun _ _ _ => rfl)) fun _ _ _ _ _ _ => rfl
  | .glob _ => zbr zmQ (fun S x env hm => (nmME hm fun _ _ _ => rfl)) fun _ _ _ _ _ _ => rfl
  | .bin op a b => zbr (znP (op := op) (zbm a).1 (zbm b).1) (fun S x env hm => (biME hm fun _ _ _ _ _ => rfl)) fun _ _ _ _ _ _ => rfl
  | .neg a => let e : EvP C (.neg a) := znL (zbm a).1; ⟨e, zie e fun S x env hm => (by
      refine unME hm ?_
      intro op l p hm
      simp only [Bool.and_eq_true, decide_eq_true_eq] at hm
      refine ob14 hm ?_
      clear hm
      intro ee98
      subst ee98
      intro _
      rfl), zjf e fun _ _ _ _ _ _ => rfl⟩
  | .not a => let e : EvP C (.not a) := znK (zbm a).1; ⟨e, znf (zbm a).2.1, zjf e fun _ _ _ _ _ _ => rfl⟩
  | .cmp op a b => let e : EvP C (.cmp op a b) := znO (op := op) (zbm a).1 (zbm b).1; ⟨e, zng (zbm a).1 (zbm b).1, zjf e fun _ _ _ _ _ _ => rfl⟩
  | .cmp2 o₁ o₂ a b c => let e : EvP C (.cmp2 o₁ o₂ a b c) := zmS (o₁ := o₁) (o₂ := o₂) (zbm a).1 (zbm b).1 (zbm c).1; ⟨e, zl3 (zbm a).1 (zbm b).1 (zbm c).1, zjf e fun _ _ _ _ _ _ => rfl⟩
  | .bool i es => let e : EvP C (.bool i es) := zmU (isAnd := i) (zfx es).2.1; ⟨e, zl4 (zfx es).2.2, zjf e fun _ _ _ _ _ _ => rfl⟩
  | .call f es => zbr (zmT (f := f) (zfx es).1) (fun S x env hm => (ncME hm fun _ _ _ _ _ => rfl)) fun _ _ _ _ _ _ => rfl
  | .make f es => zbr (zmN (c := f) (zfx es).1) (fun S x env hm => (ncME hm fun _ _ _ _ _ => rfl)) fun _ _ _ _ _ _ => rfl
  | .meth o n es => zbr (zmM (name := n) (zbm o).1 (zfx es).1) (fun S x env hm => (acME hm fun _ _ _ _ _ _ => rfl)) fun _ _ _ _ _ _ => rfl
  | .m1 o m a => zbr (zod (m := m) (zbm o).1 (zbm a).1) (fun S x env hm => (acME hm fun _ _ _ _ _ _ => rfl)) fun _ _ _ _ _ _ => rfl
  | .attr o n => zbr (zmV (name := n) (zbm o).1) (fun S x env hm => (atME hm fun _ _ _ _ => rfl)) fun _ _ _ _ _ _ => rfl
  | .idx a b => zbr (znN (zbm a).1 (zbm b).1) (fun S x env hm => (suME hm fun _ _ _ _ => rfl)) fun _ _ _ _ _ _ => rfl
  | .slice a l h => zbr (zlt (zbm a).1 (zlG l).1 (zlG h).1) (fun S x env hm => (znp hm fun _ _ _ _ _ _ => rfl)) fun _ _ _ _ _ _ => rfl
  | .list es => zbr (zmO (zfx es).1) (fun S x env hm => (liME hm fun _ _ _ => rfl)) fun _ _ _ _ _ _ => rfl
  | .tuple es => zbr (zls (zfx es).1) (fun S x env hm => (tuME hm fun _ _ _ _ => rfl)) fun _ _ _ _ _ _ => rfl
  | .dict0 => zbr zlu (fun S x env hm => (diME hm fun _ _ _ _ => rfl)) fun _ _ _ _ _ _ => rfl
  | .comp bs elt t it cond => zbr (zmR (bs := bs) (t := t) (zbm it).2.2 (zbm elt).1 (zlG cond).2) (fun S x env hm => (lcME hm fun _ _ _ _ _ => rfl)) fun _ _ _ _ _ _ => rfl
  | .b1 f a => zbr (zof (f := f) (zbm a).1) (fun S x env hm => (ncME hm fun _ _ _ _ _ => rfl)) fun _ _ _ _ _ _ => rfl
  | .isin a t => zbr (zmP (t := t) (zbm a).1) (fun S x env hm => (ncME hm fun _ _ _ _ _ => rfl)) fun _ _ _ _ _ _ => rfl
  | .range1 a => ⟨zgd fun _ _ _ _ _ _ => rfl, zeT fun _ _ _ _ _ _ => rfl, zj5 (zbm a).1⟩
  | .range2 a b => ⟨zgd fun _ _ _ _ _ _ => rfl, zeT fun _ _ _ _ _ _ => rfl, zj4 (zbm a).1 (zbm b).1⟩
  | .range3 a b c => ⟨zgd fun _ _ _ _ _ _ => rfl, zeT fun _ _ _ _ _ _ => rfl, zj3 (zbm a).1 (zbm b).1 (zbm c).1⟩
theorem zfx : ∀ es : Exs, zoo C es
  | .nil => ⟨evs_nil, bo_nil, bt_nil⟩
  | .cons e es => ⟨zlq (zbm e).1 (zfx es).1, zm8 (zbm e).1 (zfx es).2.1, zm5 (zbm e).2.1 (zfx es).2.2⟩
theorem zlG : ∀ o : ExO, zop C o
  | .none => ⟨evo_none, co_none⟩
  | .some e => ⟨zlr (zbm e).1, zm3 (zbm e).2.1⟩
end
end
end Mine
end
section
set_option linter.unusedVariables false
namespace Mine
open PySem PySem.W PySem.Calls PyProof.Rows
structure SurS (C : Cx) (k : Nat) (Φ : Bool → Calls) (S : Sc) (env : Env) : Prop where
  X : CxOk C
  ca : ∀ md, CallsOk C k md (Φ md)
  ev : EnvS S env
  fr : env.frame = some env.locals
theorem SurS.sur {C : Cx} {k : Nat} {Φ : Bool → Calls} {S : Sc} {env : Env} (U : SurS C k Φ S env) (md : Bool) : Sur C k md (Φ md) S env := ⟨U.X, U.ca md, U.ev⟩
noncomputable def zlH (A : Around) (env : Env) : Prop := ∃ outer, A.frames = some (env :: outer)
noncomputable def PostS (C : Cx) (S : Sc) (env : Env) (σ : Store) (s : Shared) (N : Loc → Store → Prop) (R : V → Store → Prop) : Flow → Shared → Prop := fun f s' => match f with
  | .next => ∃ ρ' σ', N ρ' σ' ∧ Step C (Own env) σ s σ' s' ∧ LR C σ' s'.heap env S.nm ρ' ∧ ρ'.length = S.size
  | .ret v => ∃ V σ', R V σ' ∧ VR s'.heap V v ∧ Step C (Own env) σ s σ' s' ∧ ∃ ρ', LR C σ' s'.heap env S.nm ρ' ∧ ρ'.length = S.size
  | _ => False
noncomputable def PostXS (_ : Cx) (_ : Sc) (_ : Env) (_ : Store) (_ : Shared) (_ : XL) : Value → Shared → Prop := fun _ _ => False
section
variable {C : Cx} {k : Nat} {md : Bool} {Φ : Bool → Calls} {S : Sc} {env : Env} {A : Around} {ρ : Loc} {σ σ₁ : Store} {s s₁ : Shared} {N : Loc → Store → Prop} {R : V → Store → Prop} {X : XL}
theorem Dyn.next {ρ' : Loc} {σ' : Store} {s' : Shared} (d : Dyn C k md S A env ρ σ s) (st : Step C (Own env) σ s σ' s') (l : LR C σ' s'.heap env S.nm ρ') (hl : ρ'.length = S.size) : Dyn C k md S A env ρ' σ' s' :=
  d.own st (fun _ h => h) l (hl.trans d.len.symm)
theorem PostS.from {f : Flow} {s' : Shared} (st : Step C (Own env) σ s σ₁ s₁) (h : PostS C S env σ₁ s₁ N R f s') : PostS C S env σ s N R f s' := by
  cases f with
  | next => obtain ⟨ρ', σ', q, st', r⟩ := h; exact ⟨ρ', σ', q, st.trans st', r⟩
  | ret v => obtain ⟨V, σ', q, hv, st', r⟩ := h; exact ⟨V, σ', q, hv, st.trans st', r⟩
  | _ => exact h.elim
theorem PostXS.from {x : Value} {s' : Shared} (_ : Step C (Own env) σ s σ₁ s₁) (h : PostXS C S env σ₁ s₁ X x s') : PostXS C S env σ s X x s' := h
theorem zi5 {x : Value} {s' : Shared} (_ : Dyn C k md S A env ρ σ₁ s₁) (_ : Step C (Own env) σ s σ₁ s₁) (h : PostX C σ₁ s₁ (fun c a σ => X c a ρ σ) x s') : PostXS C S env σ s X x s' := h
theorem zed (_ : SurS C k Φ S env) (_ : zlH A env) (_ : Dyn C k md S A env ρ σ s) {x : Value} {s' : Shared} (h : PostXS C S env σ s X x s') : notedBy C.M A env (cameBackBy C.M A env (PostXS C S env σ s X)) x s' := False.elim h
theorem evS {t : Sem Value} {Q : V → Store → Prop} {K : Value → Shared → Prop} (d : Dyn C k md S A env ρ σ s) (h : wpAny C.M A t (PostV C σ s Q) (PostX C σ s (fun c a σ => X c a ρ σ)) s)
    (kk : ∀ v V σ₁ s₁, Q V σ₁ → VR s₁.heap V v → Step C No σ s σ₁ s₁ → K v s₁) : wpAny C.M A t K (PostXS C S env σ s X) s :=
  wpAny_mono h (fun v s₁ ⟨V, σ₁, q, hv, st⟩ => kk v V σ₁ s₁ q hv st) fun _ _ hx => zi5 d (.refl d.r) hx
theorem evS2 {t : Sem Value} {Q : V → Store → Prop} {K : Value → Shared → Prop} (d : Dyn C k md S A env ρ σ s) (st : Step C No σ s σ₁ s₁) (h : wpAny C.M A t (PostV C σ₁ s₁ Q) (PostX C σ₁ s₁ (fun c a σ => X c a ρ σ)) s₁)
    (kk : ∀ v V σ₂ s₂, Q V σ₂ → VR s₂.heap V v → Step C No σ₁ s₁ σ₂ s₂ → Step C No σ s σ₂ s₂ → K v s₂) : wpAny C.M A t K (PostXS C S env σ s X) s₁ :=
  wpAny_mono h (fun v s₂ ⟨V, σ₂, q, hv, st₂⟩ => kk v V σ₂ s₂ q hv st₂ (st.trans st₂)) fun _ _ hx => zi5 (d.step st) st.no hx
theorem Dyn.below (d : Dyn C k md S A env ρ σ s) : ∀ a, Own env a → a < s.heap.objs.size := fun a ha => by
  refine ob7 (d.l.own a ha) ?_
  intro o ho _
  exact Heap.lt_size ho
noncomputable def StP (C : Cx) (st : St) : Prop := ∀ {k : Nat} {md : Bool} {Φ : Bool → Calls} {S : Sc} {x : Stmt} {env : Env} {A : Around} {ρ : Loc} {σ : Store} {s : Shared} {N : Loc → Store → Prop} {R : V → Store → Prop} {X : XL},
  SurS C k Φ S env → zlH A env → Dyn C k md S A env ρ σ s → zlT S st x = true → wpS Φ md st ρ σ N R X → wpAny C.M A (exec x env) (PostS C S env σ s N R) (PostXS C S env σ s X) s
noncomputable def SsP (C : Cx) (ss : Sts) : Prop := ∀ {k : Nat} {md : Bool} {Φ : Bool → Calls} {S : Sc} {xs : List Stmt} {env : Env} {A : Around} {ρ : Loc} {σ : Store} {s : Shared} {N : Loc → Store → Prop} {R : V → Store → Prop} {X : XL},
  SurS C k Φ S env → zlH A env → Dyn C k md S A env ρ σ s → zdf S ss xs = true → wpSs Φ md ss ρ σ N R X → wpAny C.M A (execs xs env) (PostS C S env σ s N R) (PostXS C S env σ s X) s
theorem zno : SsP C .nil := by
  intro k md Φ S xs env A ρ σ s N R X U tf d hm h
  dsimp only [zay, zak] at h
  refine l0E hm ?_
  intro hm
  · exact wpAny_execs_nil ⟨ρ, σ, h, .refl d.r, d.l, d.len⟩
theorem zme {st : St} {r : Sts} (hs : StP C st) (hr : SsP C r) : SsP C (.cons st r) := by
  intro k md Φ S xs env A ρ σ s N R X U tf d hm h
  dsimp only [zay, zak] at h
  refine lcE hm ?_
  intro x xs hm
  · simp only [Bool.and_eq_true] at hm
    refine wpAny_execs_cons (wpAny_mono (hs U tf d hm.1 h) (fun f s₁ h₁ => ?_) fun _ _ hx => hx)
    cases f with
    | next =>
      refine ob15 h₁ ?_
      clear h₁
      intro ρ₁ σ₁ q st l hl
      exact wpAny_mono (hr U tf (d.next st l hl) hm.2 q) (fun _ _ hx => hx.from st) fun _ _ hx => hx.from st
    | ret v => exact h₁
    | _ => exact h₁.elim
theorem zig {x : PySem.Expr} {tg : Option PySem.Expr} {line : Nat} (h : zmo x = true) : swapsWith x tg line env = pure false := by
  cases x <;> first | rfl | exact Bool.noConfusion h
theorem zmd {e : Ex} : StP C (.expr e) := by
  intro k md Φ S x env A ρ σ s N R X U tf d hm h
  dsimp only [zaF] at h
  refine sxME hm ?_
  intro x p hm
  · simp only [Bool.and_eq_true, Bool.not_eq_true'] at hm
    rw [exec_Expr env _ _ (by unfold interactive; rw [U.ev.kind]; rfl) (zig hm.2)]
    refine wpAny_bind (wpAny_standAt (wpAny_bind (evS d ((zbm e).1 (U.sur md) d hm.1 h) fun v V σ₁ s₁ q hv st => ?_)))
    exact wpAny_dropValue ⟨ρ, σ₁, q, st.no, d.l.step st, d.len⟩
theorem znl {e : Ex} : StP C (.ret e) := by
  intro k md Φ S x env A ρ σ s N R X U tf d hm h
  dsimp only [zaW] at h
  refine zn2 hm ?_
  intro o p hm
  refine o1E hm ?_
  intro x hm
  · exact wpAny_Return_some (evS d ((zbm e).1 (U.sur md) d hm h) fun v V σ₁ s₁ q hv st => ⟨V, σ₁, q, hv, st.no, ρ, d.l.step st, d.len⟩)
theorem trS {e : Ex} {x : Expr} {K : Bool → Shared → Prop} {Kb : Bool → Store → Prop} (U : SurS C k Φ S env) (d : Dyn C k md S A env ρ σ s) (hm : za8 S e x = true)
    (h : wpE (Φ md) md e ρ σ (fun v σ₁ => za9 (Mine.truthy σ₁ v) fun b => Kb b σ₁) fun c a σ₁ => X c a ρ σ₁) (kk : ∀ b σ₁ s₁, Kb b σ₁ → Step C No σ s σ₁ s₁ → K b s₁) : wpAny C.M A (isTrue x env (eval x env)) K (PostXS C S env σ s X) s := by
  refine wpAny_mono ((zbm e).2.1 (U.sur md) d hm h fun V σ' q => ?_) (fun b s₁ h₁ => ?_) fun _ _ hx => zi5 d (.refl d.r) hx
  · refine ob7 (za6 q) ?_
    intro b hb _
    exact ⟨b, hb⟩
  · refine ob1 h₁ ?_
    clear h₁
    intro V σ₁ q hb st
    refine ob7 (za6 q) ?_
    intro b' hb' q
    rw [hb] at hb'; cases hb'
    exact kk b σ₁ s₁ q st
theorem znm {c : Ex} {th el : Sts} (hth : SsP C th) (hel : SsP C el) : StP C (.iff c th el) := by
  intro k md Φ S x env A ρ σ s N R X U tf d hm h
  dsimp only [zaX] at h
  refine zn3 hm ?_
  intro x b o p hm
  · simp only [Bool.and_eq_true] at hm
    refine wpAny_If (trS U d hm.1.1 h fun b σ₁ s₁ q st => ?_)
    cases b with
    | true => exact wpAny_mono (hth U tf (d.step st) hm.1.2 q) (fun _ _ hx => hx.from st.no) fun _ _ hx => hx.from st.no
    | false => exact wpAny_mono (hel U tf (d.step st) hm.2 q) (fun _ _ hx => hx.from st.no) fun _ _ hx => hx.from st.no
theorem zkZ {c : Ex} {body : Sts} (hb : SsP C body) : StP C (.whil c body) := by
  intro k md Φ S x env A ρ σ s N R X U tf d hm h
  dsimp only [zaE] at h
  refine zn1 hm ?_
  intro x b o p hm
  refine l0E hm ?_
  intro hm
  · simp only [Bool.and_eq_true] at hm
    refine ob12 h ?_
    clear h
    intro n h
    refine wpAny_While (codeAny_whileLoop (fun n s' => ∃ ρ' σ', Step C (Own env) σ s σ' s' ∧ LR C σ' s'.heap env S.nm ρ' ∧ ρ'.length = S.size ∧ zep (fun ρ σ K => wpE (Φ md) md c ρ σ (fun v σ₁ => za9 (Mine.truthy σ₁ v) fun b => K b σ₁) fun c a σ₁ => X c a ρ σ₁)
      (fun ρ σ K => wpSs Φ md body ρ σ K R X) N n ρ' σ') ?_ n ⟨ρ, σ, .refl d.r, d.l, d.len, h⟩)
    intro n s' zz11
    refine ob15 zz11 ?_
    clear zz11
    intro ρ' σ' st l hl h
    have d' := d.next st l hl
    cases n with
    | zero => exact h.elim
    | succ n =>
      simp only [zep] at h
      refine wpAny_mono (trS (X := X) (K := fun b s₂ => ∃ σ₂, (if b = true then wpSs Φ md body ρ' σ₂ (fun ρ₁ σ₁ => zep _ _ N n ρ₁ σ₁) R X else N ρ' σ₂) ∧ Step C No σ' s' σ₂ s₂) U d' hm.1 h fun b σ₂ s₂ q st₂ => ⟨σ₂, q, st₂⟩) (fun b s₂ h₂ => ?_) fun _ _ hx => zed U tf d (hx.from st)
      refine ob7 h₂ ?_
      clear h₂
      intro σ₂ q st₂
      cases b with
      | false =>
        exact wpAny_execs_nil ⟨ρ', σ₂, q, st.trans st₂.no, l.step st₂, hl⟩
      | true =>
        refine wpAny_mono (hb U tf (d'.step st₂) hm.2 q) (fun f s₃ h₃ => ?_) fun _ _ hx => zed U tf d (hx.from (st.trans st₂.no))
        cases f with
        | next =>
          refine ob15 h₃ ?_
          clear h₃
          intro ρ₃ σ₃ q st₃ l₃ hl₃
          exact ⟨n, Nat.lt_succ_self _, ρ₃, σ₃, (st.trans st₂.no).trans st₃, l₃, hl₃, q⟩
        | ret v => exact h₃.from (st.trans st₂.no)
        | _ => exact h₃.elim
/- stores -/
theorem zd3 {tg x : Expr} {pos : Pos} {Q : Flow → Shared → Prop} {E : Value → Shared → Prop} (hs : swapsWith x (some tg) pos.line env = pure false) (hw : swappedStores [tg] x env = pure none) (ht : assignEach [tg] env = [(false, assign tg env)])
    (h : wpAny C.M A (eval x env) (fun v s₁ => wpAny C.M A (assign tg env v) (fun _ s₂ => Q .next s₂) E s₁) E s) : wpAny C.M A (exec (.Assign [tg] x pos) env) Q E s := by
  rw [arm_exec_Assign]
  refine wpAny_bind (wpAny_standAt ?_)
  show wpAny C.M A (swapsWith x (some tg) pos.line env >>= _) _ _ _
  rw [hs]
  refine wpAny_bind (wpAny_pure ?_)
  simp only [Bool.false_eq_true, if_false]
  refine wpAny_bind (wpAny_mono h (fun v s₁ h₁ => ?_) fun _ _ hx => hx)
  rw [hw, ht]
  refine wpAny_bind (wpAny_pure ?_)
  show wpAny C.M A (assign tg env v >>= fun _ => pure Flow.next) _ _ _
  exact wpAny_bind (wpAny_mono h₁ (fun _ _ h₂ => wpAny_pure h₂) fun _ _ hx => hx)
theorem zlx {t : Tg} {tg : Expr} (hm : zeW S t tg = true) : assignEach [tg] env = [(false, assign tg env)] ∧ ∀ x, swappedStores [tg] x env = pure none := by
  cases t with
  | one i => exact nmME hm fun _ _ _ => ⟨rfl, fun _ => rfl⟩
theorem zj7 {e : Ex} (h : zj8 e = true) : ∃ bs elt tt it cond, e = .comp bs elt tt it cond := by
  cases e with
  | comp bs elt tt it cond => exact ⟨_, _, _, _, _, rfl⟩
  | _ => cases h
theorem zjG {t : Tg} {e : Ex} : StP C (.assign t e) := by
  intro k md Φ S x env A ρ σ s N R X U tf d hm h
  dsimp only [zaj] at h
  refine zmi hm ?_
  intro ts x pos hm
  refine l1E hm ?_
  intro tg hm
  · simp only [Bool.and_eq_true, Bool.or_eq_true, Bool.not_eq_true'] at hm
    refine lift fun gg back => ?_
    refine ob31 hm ?_
    clear hm
    intro hT hE hnl
    refine ob14 (zd7 h) ?_
    intro htg h
    refine ob14 (zlx (env := env) hT) ?_
    intro e1 e2
    refine back ?_
    clear back gg
    have plain : swapsWith x (some tg) pos.line env = pure false → wpAny C.M A (exec (.Assign [tg] x pos) env) (PostS C S env σ s N R) (PostXS C S env σ s X) s := fun hsw => by
      refine zd3 hsw (e2 _) e1 (evS d ((zbm e).1 (U.sur md) d hE h) fun v V σ₁ s₁ q hv st => ?_)
      refine ob7 (za6 q) ?_
      intro ρ' hb q
      exact zfd (P := Own env) (U.sur md) (d.step st) hT hv hb htg (fun id i _ _ a ha => ha.own) fun s₂ st₂ d₂ => ⟨ρ', σ₁, q, st.no.trans st₂, d₂.l, d₂.len⟩
    cases hc : zj8 e with
    | false => exact plain (zig (hnl.resolve_left fun z => Bool.noConfusion (z.symm.trans hc)))
    | true =>
      refine ob45 (zj7 hc) ?_
      intro bs elt tt it cond ee99
      subst ee99
      refine ob44 (zfN hE) ?_
      intro x tg' y ifs scope pos' ee100
      subst ee100
      cases t with
      | one i =>
        have hT : (nmM tg fun id => S.own id i) = true := hT
        obtain ⟨id, p, rfl, hT⟩ : ∃ id p, tg = .Name id p ∧ S.own id i = true := by
          refine nmME hT ?_
          intro id p hT
          exact ⟨id, p, rfl, hT⟩
        have hsb : ∃ b, swapsWith (.ListComp x [⟨tg', y, ifs, 0⟩] scope pos') (some (.Name id p)) pos.line env = pure b := ⟨_, rfl⟩
        refine ob12 hsb ?_
        clear hsb
        intro b hsb
        cases b with
        | false => exact plain hsb
        | true =>
          rw [exec_Assign_Name_used id p _ pos hsb]
          refine wpAny_bind (wpAny_standAt (wpAny_bind ?_))
          show wpAny C.M A (comprehension (.ListComp x [⟨tg', y, ifs, 0⟩] scope pos') scope env y.pos (newList []) false (eval y env) (some (assign (.Name id p) env)) >>= fun _ => pure ()) _ _ _
          refine wpAny_bind (zhc (QQ := fun _ s' => wpAny C.M A (pure () : Sem Unit) (fun _ s₁ => wpAny C.M A (pure Flow.next) (PostS C S env σ s N R) (PostXS C S env σ s X) s₁) (PostXS C S env σ s X) s') (zbm it).2.2 (zbm elt).1 (zlG cond).2 (U.sur md) d hE h (fun _ _ hx => zi5 d (.refl d.r) hx) fun acc L s' hc => ?_)
          refine ob46 hc ?_
          clear hc
          intro σ' q st m hm hn hb hl
          refine ob7 (za6 q) ?_
          intro ρ' hbb q
          simp only [zbo, Option.some.injEq] at hbb
          subst hbb
          refine wpAny_assign_Name (zgK (U.sur md) (d.step st) hT .ref fun s₂ st₂ d₂ => ?_)
          have hmc := hm
          refine ob6 hmc ?_
          clear hmc
          intro o es ep ho' hd' hr'
          have hLno : ¬ OwnAt env id L := fun hx => absurd (d.below L hx.own) (Nat.not_lt.mpr hl)
          have hm2 : s₂.heap.Ns L m := zhK hm ho' (st₂.h.keep L o ho' fun z => z.elim (fun z => z hn) hLno)
          refine ⟨m, hm2, fun h' hs' => wpAny_pure (wpAny_pure ?_)⟩
          have hmc2 := hm2
          refine ob6 hmc2 ?_
          clear hmc2
          intro o2 es2 ep2 ho2 hd2 _
          have st3 : Step C (· = L) σ' s₂ σ' { s₂ with heap := h' } := Step.oneBut (t := s₂.toks) st₂.rel hs' hn hb rfl ho2 fun ⟨_, _, _, z⟩ => (by rw [hd2] at z; cases z)
          have tot : Step C (fun a => Own env a ∨ s.heap.objs.size ≤ a) σ s σ' { s₂ with heap := h' } := (st.no.trans (st₂.mono fun a ha => .inl ha.own)).trans (st3.mono fun a ha => .inr (ha ▸ hl))
          exact ⟨_, σ', q, tot.old, d₂.l.keep st3 fun a ha hx => absurd (d.below a ha) (Nat.not_lt.mpr (hx ▸ hl)), d₂.len⟩
theorem ziW {o e : Ex} {name : String} : StP C (.setattr o name e) := by
  intro k md Φ S x env A ρ σ s N R X U tf d hm h
  dsimp only [zad] at h
  refine zmi hm ?_
  intro ts y pos hm
  refine l1E hm ?_
  intro tg hm
  refine atME hm ?_
  intro x id p hm
  · simp only [Bool.and_eq_true, decide_eq_true_eq] at hm
    refine ob31 hm ?_
    clear hm
    intro ee101
    subst ee101
    intro h1 h2
    refine zd3 (by cases y <;> rfl) rfl rfl (evS d ((zbm e).1 (U.sur md) d h2 h) fun v V σ₁ s₁ q hv st => ?_)
    rw [arm_assign_Attribute]
    refine wpAny_bind (wpAny_holding (evS2 d st ((zbm o).1 (U.sur md) (d.step st) h1 q) fun u V' σ₂ s₂ q hu st₂ st' => wpAny_bind (wpAny_standAt (wpAny_bind (wpAny_holding ?_)))))
    refine wpAny_mono (zi2 U.X st'.rel hu (st₂.vr hv) (fun c => (U.ca md).fld c name) q) (fun _ s₃ h₃ => wpAny_release' ?_) fun _ _ hx => hx
    refine ob7 h₃ ?_
    clear h₃
    intro σ₃ q st₃
    exact ⟨ρ, σ₃, q, (st'.trans st₃).no, d.l.step (st'.trans st₃), d.len⟩
theorem ziV {o i e : Ex} : StP C (.setitem o i e) := by
  intro k md Φ S x env A ρ σ s N R X U tf d hm h
  dsimp only [zac] at h
  refine zmi hm ?_
  intro ts z pos hm
  refine l1E hm ?_
  intro tg hm
  refine suME hm ?_
  intro x y p hm
  · simp only [Bool.and_eq_true] at hm
    refine ob31 hm ?_
    clear hm
    intro h1 h2 h3
    refine zd3 (by cases z <;> rfl) rfl rfl (evS d ((zbm e).1 (U.sur md) d h3 h) fun v V σ₁ s₁ q hv st => ?_)
    rw [arm_assign_Subscript]
    refine wpAny_bind (wpAny_holding (evS2 d st ((zbm o).1 (U.sur md) (d.step st) h1 q) fun u Vu σ₂ s₂ q hu st₂ st' => wpAny_bind (wpAny_holding (evS2 d st' ((zbm i).1 (U.sur md) (d.step st') h2 q) fun w Vw σ₃ s₃ q hw st₃ st'' => wpAny_bind (wpAny_standAt (wpAny_bind (wpAny_holding ?_)))))))
    have hu8 : A.units + 8 < cLine := by have := zh1 d; lia
    refine wpAny_mono (zi0 hu8 st''.rel (st₃.vr hu) hw (st₃.vr (st₂.vr hv)) q) (fun _ s₄ h₄ => wpAny_release' ?_) fun _ _ hx => hx
    refine ob7 h₄ ?_
    clear h₄
    intro σ₄ q st₄
    exact ⟨ρ, σ₄, q, (st''.trans st₄).no, d.l.step (st''.trans st₄), d.len⟩
end
end Mine
end
section
set_option linter.unusedVariables false
namespace Mine
open PySem PySem.W PySem.Calls PyProof.Rows
section
variable {C : Cx} {k : Nat} {md : Bool} {Φ : Bool → Calls} {S : Sc} {env : Env} {A : Around} {ρ : Loc} {σ σ₁ : Store} {s s₁ : Shared} {N : Loc → Store → Prop} {R : V → Store → Prop} {X : XL}
theorem zhT {RR : Result → Shared → Prop} {target : Expr} {it : Value} {body : List Stmt} (I : Nat → Shared → Prop)
    (turn : ∀ n s, I n s → wpAny C.M A (pyNext it) (fun r s₁ => match r with
      | none => RR (.ok .next) s₁
      | some v => wpAny C.M A (letOwnedTupleGo target it v) (fun _ s₁ => wpAny C.M A (assign target env v) (fun _ s₂ => wpAny C.M A (execs body env) (fun f s₃ => match f with
          | .next | .cont => ∃ m, m < n ∧ I m s₃
          | .brk => RR (.ok .next) s₃
          | .ret v => RR (.ok (.ret v)) s₃) (notedBy C.M A env fun e s' => RR (.error e) s') s₂) (fun _ _ => False) s₁) (fun _ _ => False) s₁) (fun _ _ => False) s)
    (n : Nat) (h : I n s) : codeAny C.M A (.forLoop target it body [] env) RR s := by
  refine codeAny_loop' rfl I (fun n s hI => ?_) n h
  show wpAny _ _ ((forTurn target it body [] env).onRaise (fun x => do noteFrame x env; theTreesLotGoes x)) _ _ s
  refine wpAny_noted ?_
  simp only [forTurn]
  refine wpAny_bind (wpAny_standAt (wpAny_bind (wpAny_onRaise (wpAny_mono (turn n s hI) (fun r s₁ h₁ => ?_) fun _ _ h' => h'.elim))))
  cases r with
  | none => exact wpAny_pure (.inr ⟨rfl, codeAny_block (wpAny_execs_nil h₁)⟩)
  | some v =>
    refine wpAny_bind (wpAny_mono h₁ (fun _ s₁ h₁ => ?_) fun _ _ h' => h'.elim)
    refine wpAny_bind (wpAny_mono h₁ (fun _ s₂ h₂ => wpAny_bind (wpAny_mono h₂ (fun f s₃ h₃ => ?_) fun _ _ h' => h')) fun _ _ h' => h'.elim)
    cases f with
    | next => exact wpAny_pure (.inl ⟨rfl, h₃⟩)
    | cont => exact wpAny_pure (.inl ⟨rfl, h₃⟩)
    | brk => exact wpAny_pure h₃
    | ret v => exact wpAny_pure h₃
theorem znn {t : Tg} {it : Ex} {body : Sts} (hb : SsP C body) : StP C (.for t it body) := by
  intro k md Φ S x env A ρ σ s N R X U tf d hm h
  dsimp only [zaY] at h
  refine zn4 hm ?_
  intro tg y b o pos hm
  refine l0E hm ?_
  intro hm
  · simp only [Bool.and_eq_true] at hm
    refine ob31 hm ?_
    clear hm
    intro hT h1 h2
    refine ob14 (zd7 h) ?_
    intro hmd h
    refine wpAny_For ?_ (fun v => zha h1 v)
    refine wpAny_mono ((zbm it).2.2 (U.sur md) d h1 hmd h) (fun v s₁ h₁ => wpAny_mono h₁ (fun v s₂ h₂ => ?_) fun _ _ hx => zi5 d (.refl d.r) hx) fun _ _ hx => zi5 d (.refl d.r) hx
    refine ob42 h₂ ?_
    clear h₂
    intro I wr items chk St Mid σ₂ ee102
    subst ee102
    intro W hst hold hwr st q
    have hOwr : ∀ a, Own env a → ¬ a ∈ wr := fun a ha hb => absurd (d.below a ha) (Nat.not_lt.mpr (hwr a hb))
    refine zhT (fun n s' => ∃ i ρ' σ', n = items.length - i ∧ i ≤ items.length ∧ St i s'.heap ∧ Hold C wr σ' s'.heap ∧ Step C (fun a => Own env a ∨ s.heap.objs.size ≤ a) σ s σ' s' ∧ Dyn C k md S A env ρ' σ' s' ∧
      forV chk (fun v ρ σ K => za9 (zbo t v ρ) fun ρ' => wpSs Φ md body ρ' σ K R X) N (items.drop i) ρ' σ') ?_ items.length ⟨0, ρ, σ₂, by lia, Nat.zero_le _, hst, hold, st.no, d.step st, q⟩
    clear q hst hold st
    intro n s' zz12
    refine ob47 zz12 ?_
    clear zz12
    intro i ρ' σ' ee103
    subst ee103
    intro hi hst hold tot d' q
    by_cases hlt : i < items.length
    · rw [List.drop_eq_getElem_cons hlt] at q
      simp only [forV] at q
      refine ob14 q ?_
      clear q
      intro hc q
      refine ob7 (za6 q) ?_
      intro ρ₁ hbd q
      refine W.next hlt hst d'.r hold hc fun v s₁ hgo => hgo _ _ fun s₂ hv stw hst' hold' => ?_
      have d2 : Dyn C k md S A env ρ' σ' s₂ := d'.apart (n := s.heap.objs.size) stw d.a.low (fun a ha => hwr a ha) hOwr
      refine zfd (P := Own env) (U.sur md) d2 hT hv hbd (by cases t; trivial) (fun id i _ _ a ha => ha.own) fun s₃ st3 d3 => ?_
      have tot3 : Step C (fun a => Own env a ∨ s.heap.objs.size ≤ a) σ s σ' s₃ := (tot.trans (stw.mono fun a ha => .inr (hwr a ha))).trans (st3.mono fun a ha => .inl ha)
      refine ob14 (hold'.step st3 fun b hb ha => hOwr b ha hb) ?_
      intro hold3 kp3
      refine wpAny_mono (hb U tf d3 h2 q) (fun f s₄ h₄ => ?_) fun _ _ hx => zed U tf d (hx.from tot3.old)
      cases f with
      | next =>
        refine ob15 h₄ ?_
        clear h₄
        intro ρ₄ σ₄ q st4 l4 hl4
        refine ob14 (hold3.step st4 fun b hb ha => hOwr b ha hb) ?_
        intro hold4 kp4
        exact ⟨items.length - (i + 1), by lia, i + 1, ρ₄, σ₄, rfl, hlt, W.frame _ _ _ (W.frame _ _ _ hst' st3.h.tup kp3) st4.h.tup kp4, hold4, tot3.trans (st4.mono fun a ha => .inl ha), d3.next st4 l4 hl4, q⟩
      | ret v => exact h₄.from tot3.old
      | _ => exact h₄.elim
    · have hi' : i = items.length := by lia
      subst hi'
      rw [List.drop_length] at q
      simp only [forV] at q
      refine W.stop hst d'.r hold q.1 fun s₁ stw => ?_
      have d2 : Dyn C k md S A env ρ' σ' s₁ := d'.apart (n := s.heap.objs.size) stw d.a.low (fun a ha => hwr a ha) hOwr
      exact ⟨ρ', σ', q.2, (tot.trans (stw.mono fun a ha => .inr (hwr a ha))).old, d2.l, d2.len⟩
theorem zk0 {c msg : String} : StP C (.raise c msg) := fun _ _ _ _ h => h.elim
mutual
theorem znX : ∀ st : St, StP C st
  | .expr e => zmd
  | .assign t e => zjG
  | .setattr o n e => ziW
  | .setitem o i e => ziV
  | .ret e => znl
  | .raise c m => zk0
  | .iff c th el => znm (zfS th) (zfS el)
  | .whil c b => zkZ (zfS b)
  | .for t it b => znn (zfS b)
theorem zfS : ∀ ss : Sts, SsP C ss
  | .nil => zno
  | .cons s r => zme (znX s) (zfS r)
end
end
end Mine
end
section
set_option linter.unusedVariables false
namespace Mine
open PySem PySem.W PySem.Calls PyProof.Rows
structure FnOk (C : Cx) (fa : Addr) (F : Fn) : Prop where
  obj : ∃ o fd body, C.base.get? fa = some o ∧ o.data = .func fd ∧ fd.body = .stmts body ∧ fd.globals = mainGlobals ∧ fd.builtins = builtinsNs ∧ fd.closure = [] ∧ fd.scope.kind = .function ∧ fd.scope.isCoroutine = false ∧ fd.scope.isGenerator = false ∧
    C.base.CodeRec fd.code fd.qualname ∧ (∀ xs : List Value, xs.length = F.params.length → bindArgs fd ⟨xs, []⟩ = pure ((F.params.map Str.ofString).zip xs)) ∧ zdf (scOf F fd.scope.names) F.body body = true ∧
    (∀ x ∈ F.params, fd.scope.names.lookup (Str.ofString x) = some .local ∨ fd.scope.names.lookup (Str.ofString x) = some .cell) ∧ ∀ x, fd.scope.names.lookup x ≠ some .free
  nodup : F.names.Nodup
  size : F.names.length ≤ F.size
  params : F.params <+: F.names
section
variable {C : Cx} {k : Nat} {md : Bool} {A : Around} {σ : Store} {s : Shared}
theorem ze8 {kd : Str → Option NameKind} {y : Str} : ∀ {bs : List (Str × Value)} {m : Str → Option Value}, y ∉ bs.map (·.1) → bindL kd bs m y = m y
  | [], _, _ => rfl
  | (n, v) :: r, m, h => by
    simp only [List.map_cons, List.mem_cons, not_or] at h
    rw [bindL, ze8 h.2]
    split
    · exact if_neg h.1
    · rfl
theorem zhj {kd : Str → Option NameKind} {y : Str} {v : Value} (hk : kd y = some .local) : ∀ {bs : List (Str × Value)} {m : Str → Option Value}, (bs.map (·.1)).Nodup → (y, v) ∈ bs → bindL kd bs m y = some v
  | (n, u) :: r, m, hn, h => by
    simp only [List.map_cons, List.nodup_cons] at hn
    rw [bindL]
    rcases List.mem_cons.mp h with e | h
    · cases e
      rw [ze8 hn.1, if_pos hk, if_pos rfl]
    · exact zhj hk hn.2 h
theorem ze9 {kd : Str → Option NameKind} {y : Str} : ∀ {bs : List (Str × Value)} {m : Str → Option Value}, y ∉ bs.map (·.1) → bindC kd bs m y = m y
  | [], _, _ => rfl
  | (n, v) :: r, m, h => by
    simp only [List.map_cons, List.mem_cons, not_or] at h
    rw [bindC, ze9 h.2]
    split
    · rfl
    · exact if_neg h.1
theorem zhk {kd : Str → Option NameKind} {y : Str} {v : Value} (hk : kd y = some .cell) : ∀ {bs : List (Str × Value)} {m : Str → Option Value}, (bs.map (·.1)).Nodup → (y, v) ∈ bs → bindC kd bs m y = some v
  | (n, u) :: r, m, hn, h => by
    simp only [List.map_cons, List.nodup_cons] at hn
    rw [bindC]
    rcases List.mem_cons.mp h with e | h
    · cases e
      rw [ze9 hn.1, if_neg (by rw [hk]; intro q; cases q), if_pos rfl]
    · exact zhk hk hn.2 h
theorem zbG : ∀ {l : List String} {x : String} {i n : Nat}, (l.zipIdx n).lookup x = some i → n ≤ i ∧ l[i - n]? = some x
  | [], _, _, _, h => by simp at h
  | y :: l, x, i, n, h => by
    rw [List.zipIdx_cons, List.lookup_cons] at h
    cases hb : x == y with
    | true => rw [hb] at h; cases h; simp [beq_iff_eq.mp hb]
    | false =>
      rw [hb] at h
      refine ob14 (zbG h) ?_
      intro h1 h2
      refine ⟨by lia, ?_⟩
      rw [show i - n = (i - (n + 1)) + 1 by lia, zgs]; exact h2
theorem zjt {l : List String} {n : Nat} (hn : l.length ≤ n) : NmOk l.zipIdx n := by
  refine ⟨fun x y i hx hy => ?_, fun x i hx => ?_⟩
  · have h1 := (zbG hx).2
    have h2 := (zbG hy).2
    rw [h1] at h2; cases h2; rfl
  · have h1 := (zbG hx).2
    have := (List.getElem?_eq_some_iff.mp h1).1
    lia
theorem zdQ : ∀ {l : List String}, l.Nodup → (l.map Str.ofString).Nodup
  | [], _ => by simp
  | x :: l, h => by
    simp only [List.nodup_cons, List.map_cons] at h ⊢
    refine ⟨fun hm => ?_, zdQ h.2⟩
    refine ob7 (List.mem_map.mp hm) ?_
    intro y hy e
    exact h.1 (ofString_inj e ▸ hy)
theorem znr {tab : String → String → Option Fn} {fld : String → String → Bool} {F : Fn} {fa : Addr} {vs : List V} {xs : List Value} {Q : V → Store → Prop} {X : XP} (XC : CxOk C) (ca : ∀ md, CallsOk C k md (sem tab fld k md)) (FO : FnOk C fa F)
    (a : ARun C (k + 1) md A σ s.heap) (r : Rel C σ s.heap) (hv : VRs s.heap vs xs) (h : wpFn (sem tab fld k) md F vs σ Q X) :
    codeAny C.M A (.call (.ref fa) ⟨xs, []⟩) (fun r s' => match r with | .ok (.ret v) => PostV C σ s Q v s' | .ok _ => False | .error e => PostX C σ s X e s') s := by
  refine ob48 FO.obj ?_
  intro o fd body ho hd hbody hgl hbu hcl hkind hco hgen hcd hbind hmatch hpar hfree
  refine ob14 h ?_
  clear h
  intro hlen h
  have hxl : xs.length = F.params.length := hv.length.symm.trans hlen
  have hK := r.stays
  have hroom : A.depth < recursionLimit := by have := a.depth; have : (990 : Nat) ≤ recursionLimit := by decide
                                              lia
  refine codeAny_call_function hroom (hK _ _ ho) hd hco hgen hbody (hcd.keeps hK) ?_
  rw [hbind xs hxl]
  refine wpAny_pure ?_
  rw [hgl, hbu, hcl]
  have hbk : ((F.params.map Str.ofString).zip xs).map (·.1) = F.params.map Str.ofString := by
    rw [List.map_fst_zip]; simp; lia
  have hpn : F.params.Nodup := FO.nodup.sublist FO.params.sublist
  refine wpAny_newFunctionEnv_cells hkind (fun x hx => ?_) fun env he s' y => ?_
  · have hx1 : x.1 ∈ F.params.map Str.ofString := hbk ▸ List.mem_map_of_mem (f := (·.1)) hx
    refine ob7 (List.mem_map.mp hx1) ?_
    intro p hp hpe
    rcases hpar p hp with q | q
    · exact .inl (hpe ▸ q)
    · exact .inr ⟨hpe ▸ q, cellsFrom_some _ _ _ (.inl (hpe ▸ q))⟩
  refine ⟨(XC.nolimit.keeps hK).keeps y.toInCall.keep, codeAny_func ?_⟩
  have eloc : env.locals = s.heap.objs.size := by rw [he]; rfl
  have efr : env.frame = some env.locals := by rw [he]; rfl
  have esc : env.scope = fd.scope := by rw [he]; rfl
  have ecl : env.cells = cellsFrom (s.heap.objs.size + 1) fd.scope.names [] := by rw [he]; rfl
  have ES : EnvS (scOf F fd.scope.names) env := by
    refine ⟨⟨by rw [esc]; exact hkind, by rw [he]; rfl, by rw [he]; rfl⟩, by rw [esc]; rfl, zjt FO.size, fun x hx => ?_⟩
    rcases hx with hx | hx
    · rw [ecl]; exact cellsFrom_some _ _ _ (.inl hx)
    · exact absurd hx (hfree x)
  refine ob18 y.toInCall.same ?_
  intro h₁ tk ee104
  subst ee104
  have keep := y.toInCall.keep
  have hLlt : env.locals < h₁.objs.size := by
    refine ob49 y.toInCall.ns ?_
    intro oL _ _ hL _
    exact Heap.lt_size hL
  have st0 : Step C No σ s σ { s with heap := h₁, toks := tk } := .grow r keep (by rw [eloc] at hLlt; exact Nat.le_of_lt hLlt)
  have noLσ : ∀ a, s.heap.objs.size ≤ a → σ a = none ∧ C.base.get? a = none := fun a ha => ⟨r.none_of_ge ha, zbN r ha⟩
  have cellAb : ∀ n c, env.cells.lookup n = some c → s.heap.objs.size ≤ c := fun n c hc => by
    have := y.above n c (PySem.mem_of_lookup hc)
    rw [eloc] at this; exact Nat.le_of_lt this
  have hown : ∀ a, Own env a → s.heap.objs.size ≤ a := fun a ha => by
    rcases ha with rfl | ⟨n, hc⟩
    · exact Nat.le_of_eq eloc.symm
    · exact cellAb n a hc
  have hnm : ((F.params.map Str.ofString).zip xs).map (·.1) |>.Nodup := by rw [hbk]; exact zdQ hpn
  have l : LR C σ h₁ env (scOf F fd.scope.names).nm (vs.map some ++ List.replicate (F.size - vs.length) none) := by
    refine ⟨fun x i v hx hv' => ?_, ⟨_, y.toInCall.ns⟩, noLσ _ (Nat.le_of_eq eloc.symm), fun n c hc => ⟨⟨_, y.cell n c hc⟩, noLσ _ (cellAb n c hc)⟩, fun x z c hx hz => PySem.name_of_addr y.apart (PySem.mem_of_lookup hx) (PySem.mem_of_lookup hz)⟩
    have hxi : F.names[i]? = some x := (zbG hx).2
    have hi : i < vs.length := by
      by_cases hlt : i < vs.length
      · exact hlt
      · exfalso
        simp only [Loc.get] at hv'
        rw [List.getElem?_append_right (by simpa using Nat.not_lt.mp hlt), List.getElem?_replicate] at hv'
        split at hv' <;> simp at hv'
    have hvi : vs[i]? = some v := by
      simp only [Loc.get] at hv'
      rw [List.getElem?_append_left (by simpa using hi), List.getElem?_map] at hv'
      cases q : vs[i]? with
      | none => rw [q] at hv'; simp at hv'
      | some w => rw [q] at hv'; simp at hv'; rw [hv']
    refine ob7 (hv.get hvi) ?_
    intro u hu hvu
    have hpi : F.params[i]? = some x := by
      refine ob12 FO.params ?_
      intro t ht
      rw [← ht, List.getElem?_append_left (by lia)] at hxi
      exact hxi
    have hmem : (Str.ofString x, u) ∈ (F.params.map Str.ofString).zip xs := by
      refine List.mem_iff_getElem?.mpr ⟨i, ?_⟩
      rw [List.getElem?_zip_eq_some]
      exact ⟨by rw [List.getElem?_map, hpi]; rfl, hu⟩
    have hpx : x ∈ F.params := List.mem_of_getElem? hpi
    unfold Holds
    rw [ES.kindOf]
    rcases hpar x hpx with q | q
    · rw [show (scOf F fd.scope.names).names.lookup (Str.ofString x) = some .local from q]
      exact ⟨_, u, y.toInCall.ns, zhj (by rw [ES.kindOf]; exact q) hnm hmem, hvu.keep fun b ob e _ => keep b ob e⟩
    · rw [show (scOf F fd.scope.names).names.lookup (Str.ofString x) = some .cell from q]
      refine ob12 (Option.isSome_iff_exists.mp (ES.cells (Str.ofString x) (.inl q))) ?_
      intro c hc
      have hcell := y.cell _ c hc
      rw [zhk (by rw [ES.kindOf]; exact q) hnm hmem] at hcell
      exact ⟨c, u, hc, hcell, hvu.keep fun b ob e _ => keep b ob e⟩
  have hvl : vs.length ≤ F.size := by
    have := FO.params.length_le
    have := FO.size
    lia
  refine ob2 a.frames ?_
  intro fl hfl hff hfn
  have d : Dyn C k md (scOf F fd.scope.names) (A.deeper env) env (vs.map some ++ List.replicate (F.size - vs.length) none) σ { s with heap := h₁, toks := tk } := by
    refine ⟨⟨⟨env :: fl, by show A.frames.map _ = _; rw [hfl]; rfl, ?_, fun L hL => ?_⟩, a.handled, ?_, ?_⟩, st0.rel, l, by simp [scOf]; lia⟩
    · refine ⟨by rw [esc, hkind]; decide, ?_, hff.of_keeps fun b ob hb _ => ⟨ob, keep b ob hb, rfl⟩⟩
      refine ob6 y.toInCall.ns ?_
      intro oL es ep hL hLd _
      exact ⟨env.locals, oL, efr, (noLσ _ (Nat.le_of_eq eloc.symm)).2, hL, fun vs q => by rw [hLd] at q; cases q⟩
    · rw [List.filterMap_cons, efr] at hL
      rcases List.mem_cons.mp hL with rfl | hL
      · refine ob6 y.toInCall.ns ?_
        intro oL es ep hL hLd _
        exact ⟨(noLσ _ (Nat.le_of_eq eloc.symm)).1, oL, es, ep, hL, hLd⟩
      · refine ob3 (hfn L hL) ?_
        intro z1 o' es n' z2 z3
        exact ⟨z1, o', es, n', keep _ _ z2, z3⟩
    · show A.depth + 1 + 3 * (k + 1) < 990
      have := a.depth; lia
    · show A.units + 3 + 40 * (k + 1) < 9000
      have := a.units; lia
  have U : SurS C k (sem tab fld k) (scOf F fd.scope.names) env := ⟨XC, ca, ES, efr⟩
  have tf : zlH (A.deeper env) env := ⟨fl, by show A.frames.map _ = _; rw [hfl]; rfl⟩
  refine wpAny_mono (zfS F.body U tf d hmatch h) (fun f s' hf => ?_) fun x s' hx => ?_
  · cases f with
    | next =>
      refine ob1 hf ?_
      clear hf
      intro ρ' σ' q st _
      exact ⟨.none, σ', q, .none, (st0.no.trans st).drop hown⟩
    | ret v =>
      refine ob15 hf ?_
      clear hf
      intro V σ' q hv' st _
      exact ⟨V, σ', q, hv', (st0.no.trans st).drop hown⟩
    | _ => exact hf.elim
  · exact False.elim hx
structure TabOk (C : Cx) (tab : String → String → Option Fn) (fld : String → String → Bool) : Prop where
  fn : ∀ c f F, tab c f = some F → ∃ a, C.fn c f = some a ∧ FnOk C a F
  fld : ∀ c f, fld c f = true → C.fld c f = true
theorem zhg {tab : String → String → Option Fn} {fld : String → String → Bool} (T : TabOk C tab fld) {c f : String} (h : (tab c f).isSome = true) : ∃ a, C.fn c f = some a := by
  refine ob12 (Option.isSome_iff_exists.mp h) ?_
  intro F hF
  refine ob7 (T.fn c f F hF) ?_
  intro a ha _
  exact ⟨a, ha⟩
theorem ziz {tab : String → String → Option Fn} {fld : String → String → Bool} (XC : CxOk C) (T : TabOk C tab fld) : ∀ (k : Nat) (md : Bool), CallsOk C k md (sem tab fld k md)
  | 0, md => ⟨fun _ _ => zhg T, fun c f h => T.fld c f h, fun _ _ _ _ h => by rw [zhF] at h; exact h.elim⟩
  | k + 1, md => ⟨fun _ _ => zhg T, fun c f h => T.fld c f h, fun {c f a vs xs σ s A Q X} hfa ar r hv h => by
      rw [zhF] at h
      refine ob7 (za6 h) ?_
      intro F hF h
      refine ob7 (T.fn c f F hF) ?_
      intro a' ha' FO
      rw [hfa] at ha'; cases ha'
      exact znr XC (ziz XC T k) FO ar r hv h⟩
end
end Mine
end
section
set_option linter.unusedVariables false
set_option maxRecDepth 100000
namespace Mine
open PySem PySem.W PySem.Calls PyProof.Rows
theorem zm7 : (bNames.all fun p => bootBuiltins (Str.ofString p.1) == some p.2) = true := by kernel_rfl
theorem zjS : (bNames.all fun p => decide (Str.ofString p.1 ≠ ("__name__" : Str))) = true := by kernel_rfl
noncomputable def cxOf (prog : Program) (w : World) (base : Heap) (K : Frag) (T : Tabs) (mg mb : Str → Option Value) : Cx :=
  ⟨prog, w, base, fun c => T.cls.lookup c, fun c f => T.fn.lookup (c, f), fun c f => T.fld.contains (c, f), K, mg, mb⟩
section
variable {prog : Program} {w : World} {base : Heap} {K : Frag} {T : Tabs} {mg mb : Str → Option Value}
theorem zbD {α β : Type} [BEq α] [LawfulBEq α] : ∀ {l : List (α × β)} {x : α} {y : β}, l.lookup x = some y → (x, y) ∈ l
  | (a, b) :: r, x, y, h => by
    rw [List.lookup_cons] at h
    cases hb : x == a with
    | true => rw [hb] at h; cases h; rw [beq_iff_eq.mp hb]; exact List.mem_cons_self
    | false => rw [hb] at h; exact List.mem_cons_of_mem _ (zbD h)
structure TopOk (K : Frag) (T : Tabs) : Prop where
  bn : ∀ x v, (x, v) ∈ bNames → nsIn K mainGlobals (Str.ofString x) = some none
  most : ∃ t, nsIn K mainGlobals "MOST_PLACES" = some (some (.int 40 t))
  cls : ∀ c a, (c, a) ∈ T.cls → c ≠ "" ∧ nsIn K mainGlobals (Str.ofString c) = some (some (.ref a))
  fn : ∀ c f a, ((c, f), a) ∈ T.fn → isFd K a = true ∧ (c = "" → nsIn K mainGlobals (Str.ofString f) = some (some (.ref a))) ∧ (c ≠ "" → ∃ Cl, T.cls.lookup c = some Cl ∧ zfP K Cl = true ∧ findIn K (.ref Cl) (Str.ofString f) = some (some (.ref a)) ∧
    isFn K (.ref a) = true ∧ typeIn K (.ref a) = some (.type "function") ∧ (f = "__init__" → keepIn K (.ref Cl) = true ∧ makesIn K Cl = true))
  fld : ∀ c f, (c, f) ∈ T.fld → ∃ Cl, T.cls.lookup c = some Cl ∧ zfP K Cl = true ∧ findIn K (.ref Cl) (Str.ofString f) = some none
theorem zkV (h : zdJ K T = true) : TopOk K T := by
  unfold zdJ at h
  simp only [Bool.and_eq_true] at h
  refine ob32 h ?_
  clear h
  intro h1 h2 h3 h4 h5
  refine ⟨fun x v hx => ?_, ?_, fun c a hc => ?_, fun c f a hf => ?_, fun c f hf => ?_⟩
  · exact beq_iff_eq.mp (List.all_eq_true.mp h1 _ hx)
  · split at h2
    · rename_i i t e; rw [beq_iff_eq.mp h2] at e; exact ⟨t, e⟩
    · cases h2
  · have := List.all_eq_true.mp h3 _ hc
    simp only [Bool.and_eq_true, bne_iff_ne, beq_iff_eq] at this
    exact this
  · have := List.all_eq_true.mp h4 _ hf
    simp only [Bool.and_eq_true] at this
    refine ob14 this ?_
    clear this
    intro z1 z2
    refine ⟨z1, fun hc => ?_, fun hc => ?_⟩
    · rw [if_pos (by simpa using hc)] at z2; exact beq_iff_eq.mp z2
    · rw [if_neg (by simpa using hc)] at z2
      split at z2
      · rename_i Cl hCl
        simp only [Bool.and_eq_true, Bool.or_eq_true, bne_iff_ne, beq_iff_eq] at z2
        refine ob32 z2 ?_
        clear z2
        intro y1 y2 y3 y4 y5
        exact ⟨Cl, hCl, y1, y2, y3, y4, fun e => y5.elim (fun n => absurd e n) id⟩
      · cases z2
  · have := List.all_eq_true.mp h5 _ hf
    dsimp only at this
    split at this
    · rename_i Cl hCl
      simp only [Bool.and_eq_true, beq_iff_eq] at this
      exact ⟨Cl, hCl, this.1, this.2⟩
    · cases this
theorem zhQ (X : K.In base) {a : Addr} (h : isFd K a = true) : ∃ o, base.get? a = some o ∧ o.data = .func (fdOf K a) := by
  unfold isFd at h
  split at h
  · rename_i e
    refine ⟨_, X _ _ e, ?_⟩
    unfold fdOf; rw [e]
  · cases h
theorem ziy {Cl : Addr} (h : zfP K Cl = true) : znc K Cl := by
  unfold zfP at h
  simp only [Bool.and_eq_true, beq_iff_eq] at h
  exact ⟨h.1.1.1, h.1.1.2, h.1.2, h.2⟩
theorem zmZ {p : Program} {loose : List Str} (X : K.In base) (R : TopRead p loose mg mb base) (h : zdJ K T = true) : CxOk (cxOf prog w base K T mg mb) := by
  have O := zkV h
  refine ⟨X, R.g, R.b, R.nolimit, fun x v hx => ⟨mg_none_of X R.g (O.bn x v hx), ?_⟩, fun x i hx => ?_, ?_, fun c Cl hc => ?_, fun f a hf => ?_, fun c fa hf hc => ?_, fun c name fa Cl hf hc hcl => ?_, fun c name Cl hf hcl => ?_⟩
  · have h1 := List.all_eq_true.mp zm7 _ hx
    have h2 := List.all_eq_true.mp zjS _ hx
    show mb _ = _
    rw [R.builtins _ (of_decide_eq_true h2)]
    exact beq_iff_eq.mp h1
  · unfold zkj at hx
    split at hx
    · cases hx
      refine ob12 O.most ?_
      intro t ht
      exact ⟨t, mg_of X R.g ht⟩
    · cases hx
  · show T.cls.lookup "" = none
    cases q : T.cls.lookup "" with
    | none => rfl
    | some a => exact absurd rfl (O.cls _ _ (zbD q)).1
  · exact mg_of X R.g (O.cls _ _ (zbD hc)).2
  · refine ob16 (O.fn _ _ _ (zbD hf)) ?_
    intro h1 h2 _
    refine ob7 (zhQ X h1) ?_
    intro o ho hd
    exact ⟨mg_of X R.g (h2 rfl), o, _, ho, hd⟩
  · refine lift fun gg back => ?_
    refine ob16 (O.fn _ _ _ (zbD hf)) ?_
    intro h1 _ h3
    refine ob50 (h3 hc) ?_
    intro Cl y1 y2 y3 y4 y5 y6
    refine ob14 (y6 rfl) ?_
    intro z1 z2
    refine back ?_
    clear back gg
    exact ⟨Cl, y1, z1, z2, y3, y5⟩
  · refine ob16 (O.fn _ _ _ (zbD hf)) ?_
    intro h1 _ h3
    refine ob50 (h3 hc) ?_
    intro Cl' y1 y2 y3 y4 y5 y6
    have : Cl' = Cl := Option.some.inj (y1.symm.trans hcl)
    subst this
    refine ob7 (zhQ X h1) ?_
    intro o ho hd
    exact ⟨ziy y2, y3, y4, o, _, ho, hd⟩
  · have hm : (c, name) ∈ T.fld := by simpa [cxOf] using hf
    refine ob2 (O.fld _ _ hm) ?_
    intro Cl' y1 y2 y3
    have : Cl' = Cl := Option.some.inj (y1.symm.trans hcl)
    subst this
    exact ⟨ziy y2, y3⟩
theorem zmI {C : Cx} {a : Addr} {F : Fn} (X : K.In C.base) (h : zhU K a F = true) (hb : ∀ xs : List Value, xs.length = F.params.length → bindArgs (fdOf K a) ⟨xs, []⟩ = pure ((F.params.map Str.ofString).zip xs)) : FnOk C a F := by
  unfold zhU at h
  dsimp only at h
  split at h
  · rename_i body hbody
    simp only [Bool.and_eq_true, beq_iff_eq, Bool.not_eq_true', decide_eq_true_eq, List.isEmpty_iff] at h
    refine ob51 h ?_
    clear h
    intro h1 h2 h3 h4 h5 h6 h7 h8 h9 h10 h11 h12 h13 h14
    refine ob7 (zhQ X h1) ?_
    intro o ho hd
    refine ⟨⟨o, _, body, ho, hd, hbody, h2, h3, h4, h5, h6, h7, codeRec_of X h8, hb, h9, fun x hx => ?_, fun x hx => ?_⟩, h12, h13, h14⟩
    · have := List.all_eq_true.mp h10 x hx
      simpa using this
    · have := List.all_eq_true.mp h11 _ (PySem.mem_of_lookup hx)
      simp at this
  · cases h
end
end Mine
end
section
set_option maxRecDepth 100000
namespace Mine
open PySem PySem.W PySem.Calls PyProof.Rows
theorem zjd {ns : List Str} {xs : List Value} (h : xs.length = ns.length) {n : Str} (hn : n ∈ ns) : ((ns.zip xs).lookup n).isSome = true := by
  induction ns generalizing xs with
  | nil => cases hn
  | cons m ns ih =>
    cases xs with
    | nil => simp at h
    | cons x xs =>
      rw [List.zip_cons_cons, List.lookup_cons]
      cases e : n == m with
      | true => rfl
      | false =>
        rcases List.mem_cons.mp hn with rfl | hn
        · rw [beq_self_eq_true] at e; cases e
        · exact ih (by simpa using h) hn
theorem ziq {α β : Type} {f g : α → Option β} : ∀ {l : List α}, (∀ a ∈ l, f a = g a) → l.filterMap f = l.filterMap g
  | [], _ => rfl
  | a :: l, h => by rw [List.filterMap_cons, List.filterMap_cons, h a List.mem_cons_self, ziq fun b hb => h b (List.mem_cons_of_mem _ hb)]
theorem zkQ {ns : List Str} {xs : List Value} (hn : ns.Nodup) (h : xs.length = ns.length) : ns.filterMap (fun n => ((ns.zip xs).lookup n).map (n, ·)) = ns.zip xs := by
  induction ns generalizing xs with
  | nil => rfl
  | cons m ns ih =>
    cases xs with
    | nil => simp at h
    | cons x xs =>
      have hm := (List.nodup_cons.mp hn).1
      rw [List.zip_cons_cons, List.filterMap_cons]
      simp only [List.lookup_cons, beq_self_eq_true, Option.map_some]
      congr 1
      refine (ziq ?_).trans (ih (List.nodup_cons.mp hn).2 (by simpa using h))
      intro n hnm
      have : (n == m) = false := by
        cases e : n == m with
        | false => rfl
        | true => rw [beq_iff_eq] at e; subst e; exact absurd hnm hm
      rw [this]
theorem zm9 {fd : FuncData} {ps : List String} (hp : zgb fd ps = true) (xs : List Value) (hx : xs.length = ps.length) : bindArgs fd ⟨xs, []⟩ = pure ((ps.map Str.ofString).zip xs) := by
  refine lift fun gg back => ?_
  obtain ⟨name, qn, ⟨po, as, va, ko, kd, kw, df⟩, body, scope, gl, cl, defs, kwd, doc, pm, an, cd, ct, bl⟩ := fd
  refine back ?_
  clear back gg
  simp only [zgb, Bool.and_eq_true, List.isEmpty_iff, beq_iff_eq, Option.isNone_iff_eq_none, decide_eq_true_eq] at hp
  refine ob41 hp ?_
  clear hp
  intro ee105
  subst ee105
  intro hn ee106
  subst ee106
  intro ee107
  subst ee107
  intro ee108
  subst ee108
  intro hd hnd
  have hd : defs = .none := by cases defs <;> first | rfl | cases hd
  subst hd
  have hl : xs.length = (ps.map Str.ofString).length := by simpa using hx
  have miss : (as.map (·.arg)).filter (fun n => (((as.map (·.arg)).zip xs).lookup n).isNone) = [] := by
    rw [hn, List.filter_eq_nil_iff]
    intro n hm
    have := zjd hl hm
    simp [Option.isNone_iff_eq_none, Option.isSome_iff_ne_none] at this ⊢
    exact this
  have hgt : ¬ (xs.length > (as.map (·.arg)).length) := by rw [hn, hl]; exact Nat.lt_irrefl _
  have hb : (as.map (·.arg)).filterMap (fun n => (((as.map (·.arg)).zip xs).lookup n).map (n, ·)) = (ps.map Str.ofString).zip xs := by
    rw [hn]
    exact zkQ hnd hl
  have hdrop : (as.map (·.arg)).drop ((as.map (·.arg)).length - 0) = [] := by simp
  have hns : notAStandIn (Value.none) = (pure () : Sem Unit) := by rfl
  unfold bindArgs
  simp only [seqItems?, List.map_nil, List.nil_append, hgt, hns, pure_bind, List.forIn_nil, Option.getD_none, List.length_nil, List.drop_nil, Nat.sub_zero, List.take_length, miss, List.append_nil, hb, Option.isNone_none, Bool.and_true, decide_false, Bool.false_eq_true, if_false, List.isEmpty_nil, Bool.not_true, List.zip_nil_right]
end Mine
end
section
set_option maxRecDepth 100000
namespace Mine
open PySem PySem.W PySem.Calls PyProof.Rows
theorem ze3 {h : Heap} {k : Frag → Bool} : ∀ {as : List Addr} {acc : Frag}, zcG h k as acc = true → acc.In h → ∃ K : Frag, K.In h ∧ k K = true
  | [], acc, e, i => ⟨acc, i, e⟩
  | a :: as, acc, e, i => by
    cases ho : h.get? a with
    | none =>
      simp only [zcG, ho] at e
      exact ze3 e i
    | some o =>
      simp only [zcG, ho] at e
      refine ze3 e ?_
      intro b p hp
      rw [List.lookup_cons] at hp
      cases e' : b == a with
      | true => rw [e'] at hp; cases hp; rw [beq_iff_eq.mp e']; exact ho
      | false => rw [e'] at hp; exact i b p hp
noncomputable def zeH (T : Tabs) (fns : List ((String × String) × Fn)) (law : Addr) (K : Frag) : Bool := zdJ K T && zbY T fns K && (nsIn K mainGlobals (Str.ofString "law") == some (some (.ref law)))
noncomputable def obsK (T : Tabs) (fns : List ((String × String) × Fn)) (law : Addr) (n : Nat) (s : Shared) : Bool := zcG s.heap (zeH T fns law) (List.range n) []
noncomputable def zk7 (T : Tabs) (fns : List ((String × String) × Fn)) (law : Addr) (h : Heap) : Prop := ∃ K : Frag, K.In h ∧ zeH T fns law K = true
theorem zk6 {T : Tabs} {fns : List ((String × String) × Fn)} {law : Addr} {n : Nat} {s : Shared} (e : obsK T fns law n s = true) : zk7 T fns law s.heap := ze3 e (fun _ _ hp => by cases hp)
theorem zhG {T : Tabs} {fns : List ((String × String) × Fn)} {law : Addr} {h h' : Heap} (y : zk7 T fns law h) (k : ∀ b o, h.get? b = some o → h'.get? b = some o) : zk7 T fns law h' := let ⟨K, i, e⟩ := y; ⟨K, i.keeps k, e⟩
theorem znk {T : Tabs} {fns : List ((String × String) × Fn)} {fld : String → String → Bool} {prog : Program} {w : World} {base : Heap} {K : Frag} {mg mb : Str → Option Value} (X : K.In base) (h : zbY T fns K = true) (hf : ∀ c f, fld c f = true → T.fld.contains (c, f) = true) :
    TabOk (cxOf prog w base K T mg mb) (fun c f => fns.lookup (c, f)) fld := by
  refine ⟨fun c f F e => ?_, fun c f e => hf c f e⟩
  have hm := List.all_eq_true.mp h _ (zbD e)
  dsimp only at hm
  split at hm
  · rename_i a ha
    simp only [Bool.and_eq_true] at hm
    exact ⟨a, ha, zmI X hm.1 fun xs hx => zm9 hm.2 xs hx⟩
  · cases hm
end Mine
end
section
set_option maxRecDepth 100000
namespace Mine
open PySem PySem.W PySem.Calls PyProof.Rows
theorem zmz {p q : Program} {loose : List Str} {Xt : Shared → Bool} {Yf : Shared → Bool} {N : Nat} (a : ∀ w, (openEnds treeTable p w N).map (fun s => openSeen q loose (importedModules p.main.body) Xt true s) = some (openGood q loose))
    (b : ∀ w, (openEnds treeTable p w N).map Yf = some true) : LeftO p q loose Xt Yf (fun _ => true) N := fun w => by
  refine ob7 (Option.map_eq_some_iff.mp (a w)) ?_
  intro s e h
  have hb := b w
  rw [e] at hb ⊢
  have hb' : Yf s = true := Option.some.inj hb
  rw [Option.map_some, h, hb']
theorem zhh {p : Program} {Y Z : Shared → Bool} {N : Nat} (a : ∀ w, (openEnds treeTable p w N).map Y = some true) (b : ∀ w, (openEnds treeTable p w N).map Z = some true) : ∀ w, (openEnds treeTable p w N).map (fun s => Y s && Z s) = some true := fun w => by
  refine ob7 (Option.map_eq_some_iff.mp (a w)) ?_
  intro s e h
  have hb := b w
  rw [e] at hb ⊢
  have hb' : Z s = true := Option.some.inj hb
  rw [Option.map_some, h, hb']; rfl
theorem zeg {h : Heap} {k j : Frag → Bool} : ∀ {as : List Addr} {acc : Frag}, (zcG h k as acc && zcG h j as acc) = zcG h (fun K => k K && j K) as acc
  | [], acc => rfl
  | a :: as, acc => by
    cases e : h.get? a with
    | none => simp only [zcG, e]; exact zeg
    | some o => simp only [zcG, e]; exact zeg
theorem znw {T : Tabs} {fns : List ((String × String) × Fn)} {law : Addr} {n i : Nat} : (fun s => obs1 T fns law n i s && obs2 T fns n i s) = obsK T fns law n := by
  funext s
  unfold obs1 obs2 obsK
  rw [zeg]
  congr 1
  funext K
  have : zbY T fns K = (zbY T (fns.take i) K && zbY T (fns.drop i) K) := by
    unfold zbY
    rw [← List.all_append, List.take_append_drop]
  unfold zeH
  rw [this]
  cases zdJ K T <;> cases zbY T (fns.take i) K <;> cases zbY T (fns.drop i) K <;> cases (nsIn K mainGlobals (Str.ofString "law") == some (some (.ref law))) <;> rfl
end Mine
end
section
open PySem PySem.W PyProof.Rows
set_option Elab.async false
set_option maxRecDepth 100000
set_option maxHeartbeats 8000000
namespace Mine
theorem znD : LeftO PySem.Challenge.pw_uf010024_07 q07 [] (fun s => xlAt q07 [] s && recOk (RowW.records PySem.Challenge.rw_uf010024_07.row.toRowW) s) (obsK tabs07 fns07 321 323) (fun _ => true) 5166 := by
  refine zmz zmC ?_
  have h := zhh zmB zmA
  rw [znw] at h
  exact h
noncomputable def sig0 (l : Addr) (ns : List Int) : Store := fun a => if a = l then some (.fixed (ns.map V.int)) else none
theorem zlp (c f : String) (h : zbf c f = true) : tabs07.fld.contains (c, f) = true := by
  simp only [zbf, Bool.and_eq_true, beq_iff_eq, Bool.or_eq_true] at h
  rcases h with (((((((⟨rfl, rfl⟩ | ⟨rfl, rfl⟩) | ⟨rfl, rfl⟩) | ⟨rfl, rfl⟩) | ⟨rfl, rfl⟩) | ⟨rfl, rfl⟩) | ⟨rfl, rfl⟩) | ⟨rfl, rfl⟩) | ⟨rfl, rfl⟩ <;> rfl
theorem znq : PySem.Challenge.rw_uf010024_07.wellSaid = true := by decide +kernel
end Mine
end
section
open PySem PySem.W PyProof.Rows
set_option Elab.async false
set_option maxRecDepth 100000
set_option maxHeartbeats 8000000
namespace Mine
theorem join07 (hlaw : ∀ (l : Addr) (ns : List Int), ns.length ≤ 63 → (sem zba zbf 20 true).run "" "law" [.ref l] (sig0 l ns) (fun v _ => v = .bool true) (fun _ _ _ => False)) : PySem.Challenge.rw_uf010024_07.Holds := by
  refine PySem.W.holds_law znq fun said => ?_
  refine PySem.W.holds_open (q := q07) (loose := []) (XP := PySem.W.XL q07 []) (YP := fun _ h => zk7 tabs07 fns07 321 h) (N := 5166) znD (fun _ _ e => zk6 e) (fun _ _ _ y k => zhG y k) (fun s e => xl_of s (Bool.and_eq_true_iff.mp e).1) PySem.W.XL.keeps (by rfl) (by rfl) (by rfl) (fun s e => recFacts_of (Bool.and_eq_true_iff.mp e).2) (by rfl) said (by decide +kernel) ⟨rfl, rfl, rfl, rfl, rfl, by decide +kernel⟩ ?hw ?hc
  case hw => w_witness2
  intro w s₀ s₁ mg mb G Y fa o pm cd doc dV kV ho hd hcd hD hmg hg args vals as hpre hlay hrd hwl hlo
  refine ob7 Y ?_
  clear Y
  intro K KX KC
  simp only [zeH, Bool.and_eq_true, beq_iff_eq] at KC
  refine ob31 KC ?_
  clear KC
  intro KT KF KL
  refine Ground.open G ?_
  intro T B D TE TW
  try (refine guard_noD D (by decide +kernel) ?_; clear D)
  wrow_args hpre hlay hrd hwl hlo
  rename_i ns _ _ _ _ _ _ _ l vs _ hL _ _ _ hI _ hlen _
  refine enter_call ?_
  refine codeAny_mono ?_ (fun _ _ g => GoodW.toG g)
  clear ho hd hcd hD
  have R := topRead_of T
  have CX := zmZ (prog := Challenge.rw_uf010024_07.row.prog) (w := w) KX R KT
  have hfa : fa = 321 := by
    have h1 := mg_of KX R.g KL
    have h2 : mg (Str.ofString "law") = some (.ref fa) := hmg
    rw [h1] at h2; cases h2; rfl
  subst hfa
  have ca := ziz CX (znk (prog := Challenge.rw_uf010024_07.row.prog) (mg := mg) (mb := mb) (fld := zbf) KX KF zlp) 20 true
  have rel : Rel (cxOf Challenge.rw_uf010024_07.row.prog w s₁.heap K tabs07 mg mb) (sig0 l ns) s₁.heap := by
    refine ⟨fun b o e => e, fun a o h => ?_, fun a o h => ?_, Nat.le_refl _⟩
    · unfold sig0 at h
      split at h
      · rename_i e; cases h; subst e
        exact ⟨vs, hL, zj9 hI, by rw [List.length_map]; unfold zbb; lia⟩
      · cases h
    · unfold sig0 at h
      split at h
      · cases h; exact .inr ⟨_, rfl⟩
      · cases h
  refine codeAny_mono (ca.run (c := "") (f := "law") (s := s₁) (A := callerA) (vs := [.ref l]) rfl ⟨⟨[], rfl, trivial, fun L hL => by cases hL⟩, fun _ => rfl, by decide, by decide⟩ rel (.cons .ref .nil) (hlaw l ns (by lia))) fun r s' hr => ?_
  rcases r with e | f
  · exact False.elim hr
  · cases f with
    | ret v =>
      refine lift fun gg back => ?_
      refine ob1 hr ?_
      clear hr
      intro V σ' ee109
      subst ee109
      intro hv st
      cases hv.bool_of
      refine back ?_
      clear back gg
      refine ⟨.inl ⟨_, .bool true, [], rfl, fun _ => rfl, .bool true, ?_, fun _ => ⟨.nil, fun _ h => by cases h⟩⟩, st.rel.stays, st.os, st.gens.trans hg⟩
      kernel_rfl
    | _ => exact hr.elim
end Mine
end
section
set_option linter.unusedVariables false
set_option linter.unusedSimpArgs false
namespace Mine
open PySem
noncomputable def Ext (σ σ' : Store) : Prop := ∀ a o, σ a = some o → σ' a = some o
theorem Ext.rfl {σ : Store} : Ext σ σ := fun _ _ h => h
theorem Ext.trans {σ σ' σ'' : Store} (h : Ext σ σ') (g : Ext σ' σ'') : Ext σ σ'' := fun a o e => g a o (h a o e)
theorem Ext.upd {σ σ' : Store} {a : Addr} {o : AO} (h : Ext σ σ') (g : σ a = none) : Ext σ (σ'.upd a o) := by
  intro b p e
  unfold Store.upd
  by_cases hb : b = a
  · subst hb; rw [g] at e; cases e
  · rw [if_neg hb]; exact h b p e
theorem Ext.none {σ σ' : Store} (h : Ext σ σ') {a : Addr} (g : σ' a = none) : σ a = none := by
  cases e : σ a with
  | none => rfl
  | some o => rw [h a o e] at g; cases g
@[simp] theorem zaR {σ : Store} {a : Addr} {o : AO} : (σ.upd a o) a = some o := by simp [Store.upd]
theorem zb8 {σ : Store} {a : Addr} {o p : AO} : (σ.upd a o).upd a p = σ.upd a p := by funext z; simp [Store.upd]; split <;> rfl
theorem za7 {σ : Store} {a b : Addr} {o : AO} (h : b ≠ a) : (σ.upd a o) b = σ b := by simp [Store.upd, h]
theorem zbp {chk : Store → Prop} {B : V → Loc → Store → (Loc → Store → Prop) → Prop} {Q : Loc → Store → Prop} (I : Nat → Loc → Store → Prop)
    {items : List V} {ρ : Loc} {σ : Store} (h0 : I 0 ρ σ) (hc : ∀ k ρ σ, I k ρ σ → chk σ)
    (hs : ∀ k v ρ σ K, items[k]? = some v → I k ρ σ → (∀ ρ' σ', I (k + 1) ρ' σ' → K ρ' σ') → B v ρ σ K)
    (he : ∀ ρ σ, I items.length ρ σ → Q ρ σ) : forV chk B Q items ρ σ := by
  suffices g : ∀ (r : List V) (k : Nat) (ρ : Loc) (σ : Store), items.drop k = r → k ≤ items.length → I k ρ σ → forV chk B Q r ρ σ from g items 0 ρ σ (by simp) (Nat.zero_le _) h0
  intro r
  induction r with
  | nil =>
    intro k ρ σ hd hl hi
    have hk : items.length ≤ k := List.drop_eq_nil_iff.mp hd
    have : k = items.length := by lia
    subst this
    exact ⟨hc _ ρ σ hi, he ρ σ hi⟩
  | cons v r ih =>
    intro k ρ σ hd hl hi
    have hlt : k < items.length := by
      have := congrArg List.length hd
      simp at this; lia
    refine ⟨hc k ρ σ hi, hs k v ρ σ _ ?_ hi fun ρ' σ' hi' => ih (k + 1) ρ' σ' ?_ hlt hi'⟩
    · have := congrArg (fun l : List V => l[0]?) hd
      simpa using this
    · have := congrArg List.tail hd
      simpa [List.tail_drop] using this
theorem ze6 {chk : Store → Prop} {B : V → Store → (Option V → Store → Prop) → Prop} {Q : V → Store → Prop} (I : Nat → List V → Store → Prop)
    {items : List V} {σ : Store} (h0 : I 0 [] σ) (hc : ∀ k acc σ, I k acc σ → chk σ ∧ acc.length ≤ k) (hl : items.length ≤ zbb)
    (hs : ∀ k v acc σ K, items[k]? = some v → I k acc σ → (∀ x σ', I (k + 1) (match x with | some x => acc ++ [x] | none => acc) σ' → K x σ') → B v σ K)
    (he : ∀ acc σ, I items.length acc σ → ∀ a, σ a = none → Q (.ref a) (σ.upd a (.list acc))) : zcw chk B Q items [] σ := by
  suffices g : ∀ (r : List V) (k : Nat) (acc : List V) (σ : Store), items.drop k = r → k ≤ items.length → I k acc σ → zcw chk B Q r acc σ from g items 0 [] σ (by simp) (Nat.zero_le _) h0
  intro r
  induction r with
  | nil =>
    intro k acc σ hd hl hi
    have hk : items.length ≤ k := List.drop_eq_nil_iff.mp hd
    have : k = items.length := by lia
    subst this
    exact ⟨(hc _ acc σ hi).1, he acc σ hi⟩
  | cons v r ih =>
    intro k acc σ hd hl' hi
    have hlt : k < items.length := by
      have := congrArg List.length hd
      simp at this; lia
    have := (hc k acc σ hi).2
    refine ⟨(hc k acc σ hi).1, by lia, hs k v acc σ _ ?_ hi fun x σ' hi' => ih (k + 1) _ σ' ?_ hlt hi'⟩
    · have := congrArg (fun l : List V => l[0]?) hd
      simpa using this
    · have := congrArg List.tail hd
      simpa [List.tail_drop] using this
theorem zcU {n : Int} : (upto 0 n 1).length = n.toNat := by simp [upto]
theorem zjv {lo hi : Int} {k : Nat} (h : lo + k < hi) : (upto lo hi 1)[k]? = some (lo + k) := by
  have : k < (hi - lo).toNat := by lia
  simp [upto, this]
theorem upto_get' {lo hi x : Int} {k : Nat} (h : (upto lo hi 1)[k]? = some x) : x = lo + k ∧ lo + k < hi := by
  by_cases hk : lo + k < hi
  · rw [zjv hk] at h; cases h; exact ⟨rfl, hk⟩
  · have : (upto lo hi 1).length ≤ k := by simp [upto]; lia
    rw [List.getElem?_eq_none this] at h; cases h
theorem zeI {lo hi : Int} : (upto lo hi 1).length = (hi - lo).toNat := by simp [upto]
theorem zbH {lo hi : Int} {k : Nat} {v : V} (h : ((upto lo hi 1).map V.int)[k]? = some v) : v = .int (lo + k) ∧ lo + k < hi := by
  rw [List.getElem?_map] at h
  cases e : (upto lo hi 1)[k]? with
  | none => rw [e] at h; cases h
  | some x => rw [e] at h; cases h; obtain ⟨rfl, g⟩ := upto_get' e; exact ⟨rfl, g⟩
section
variable {σ : Store} {Q : V → Store → Prop} {a b : Int}
theorem zdS {a : Addr} {o : AO} {P : Prop} (h : σ a = some o) (g : σ a = none) : P := by
  rw [g] at h; cases h
theorem zjX {y z : Addr} {rs : List Addr} (g : y ∈ rs) (h : z ∉ rs) : y ≠ z := fun e => h (e ▸ g)
theorem zbF {a b : Addr} {o : AO} (h : σ a = some o) (g : σ b = none) : a ≠ b := fun e => zdS h ((congrArg σ e).trans g)
theorem zgW {a b : Addr} {o : AO} (g : σ b = none) (h : σ a = some o) : b ≠ a := (zbF h g).symm
theorem zcB {a b : Addr} {o u : AO} (h : σ a = some o) (g : σ b = some u) (n : o ≠ u) : a ≠ b := fun e => n (Option.some.inj (h.symm.trans ((congrArg σ e).trans g)))
theorem zkk : zkj "MOST_PLACES" = some 40 := rfl
theorem go_b {b : Bool} {K : Bool → Prop} (h : K b) : za9 (truthy σ (.bool b)) K := h
theorem zch {A B : Prop} (h : A) : za9 (truthy σ (.bool true)) fun b => if b = true then A else B := h
theorem znF {A B : Prop} (h : B) : za9 (truthy σ (.bool true)) fun b => if b = false then A else B := h
theorem zbv {A B : Prop} (h : B) : za9 (truthy σ (.bool false)) fun b => if b = true then A else B := h
theorem zef {A B : Prop} (h : A) : za9 (truthy σ (.bool false)) fun b => if b = false then A else B := h
theorem zhI {a : Addr} {vs : List V} {K : List V → Prop} (h : σ a = some (.list vs)) : zhJ σ (.ref a) K = K vs := by
  show (match σ a with | some (.list vs) => K vs | some (.fixed vs) => K vs | _ => False) = _
  rw [h]
theorem zjO {a : Addr} {vs : List V} {K : List V → Prop} (h : σ a = some (.fixed vs)) : zhJ σ (.ref a) K = K vs := by
  show (match σ a with | some (.list vs) => K vs | some (.fixed vs) => K vs | _ => False) = _
  rw [h]
theorem zeC {md : Bool} {a : Addr} {vs : List V} (h : σ a = some (.list vs)) : b1V md .len (.ref a) σ Q = Q (.int vs.length) σ := zhI h
theorem zn8 {md : Bool} {a : Addr} {vs : List V} (h : σ a = some (.fixed vs)) : b1V md .len (.ref a) σ Q = Q (.int vs.length) σ := zjO h
theorem zgv {md : Bool} {v : V} : b1V md .list v σ Q = zbw σ v fun _ vs => vs.length ≤ zbb ∧ alloc σ (.list vs) Q := rfl
theorem zfb {md : Bool} {v : V} : b1V md .sorted v σ Q = ((zjN md σ v fun vs => za9 (zeb vs) fun ws => alloc σ (.list ws) Q) ∨ zbw σ v fun _ vs => zmg vs fun ws => alloc σ (.list ws) Q) := rfl
theorem zae {i : Nat} {v : V} {ρ : Loc} : zbo (.one i) v ρ = some (ρ.set i (some v)) := rfl
theorem zmm {i : Int} : zgV (.int i) = some (some i) := rfl
theorem zla : zgV .none = some none := rfl
theorem isl {a : Addr} {vs : List V} (h : σ a = some (.list vs)) : zio σ (.ref a) .list = some true := by
  show (asL (σ a)).map _ = _
  rw [h]; rfl
@[simp] theorem zdN : binV .Add (.int a) (.int b) σ Q = Q (.int (a + b)) σ := rfl
@[simp] theorem ziA : binV .Sub (.int a) (.int b) σ Q = Q (.int (a - b)) σ := rfl
@[simp] theorem zlC : binV .Mult (.int a) (.int b) σ Q = ((a.natAbs < 2 ^ 32 ∧ b.natAbs < 2 ^ 32) ∧ Q (.int (a * b)) σ) := rfl
@[simp] theorem ziB : binV .FloorDiv (.int a) (.int b) σ Q = ((0 < b ∧ b < 1000000000) ∧ Q (.int (a.fdiv b)) σ) := rfl
@[simp] theorem zgu : binV .Mod (.int a) (.int b) σ Q = (0 < b ∧ Q (.int (a.fmod b)) σ) := rfl
theorem ziC {x y : Addr} {us vs : List V} (hx : σ x = some (.list us)) (hy : σ y = some (.list vs)) (hl : us.length + vs.length ≤ zbb) (h : ∀ z, σ z = none → Q (.ref z) (σ.upd z (.list (us ++ vs)))) : binV .Add (.ref x) (.ref y) σ Q := by
  show zbw σ (.ref x) fun _ us => zbw σ (.ref y) fun _ vs => us.length + vs.length ≤ zbb ∧ alloc σ (.list (us ++ vs)) Q
  exact zbc hx (zbc hy ⟨hl, h⟩)
@[simp] theorem zku : cmpV σ .Lt (.int a) (.int b) = some (decide (a < b)) := rfl
@[simp] theorem zoi : cmpV σ .LtE (.int a) (.int b) = some (decide (a ≤ b)) := rfl
@[simp] theorem zkv : cmpV σ .Gt (.int a) (.int b) = some (decide (b < a)) := rfl
@[simp] theorem zok : cmpV σ .GtE (.int a) (.int b) = some (decide (b ≤ a)) := rfl
@[simp] theorem zm4 : cmpV σ .Eq (.int a) (.int b) = some (a == b) := rfl
@[simp] theorem zoh : cmpV σ .NotEq (.int a) (.int b) = some (!(a == b)) := rfl
theorem zhZ {u v : V} : cmpV σ .In u v = inV σ u v := rfl
theorem zb7 {u v : V} : cmpV σ .NotIn u v = (inV σ u v).map (!·) := rfl
theorem zgp {u v : V} : cmpV σ .Eq u v = eqv σ fuel u v := rfl
theorem zhY {u v : V} : cmpV σ .NotEq u v = (eqv σ fuel u v).map (!·) := rfl
@[simp] theorem zoj {u : V} : cmpV σ .Is u .none = some (noB u) := rfl
@[simp] theorem zjk {u : V} : cmpV σ .IsNot u .none = some (!(noB u)) := rfl
theorem zg4 : zhN (.int a) (.int b) = (a == b) := rfl
theorem zlk {c d : Int} : zhN (.tup [.int a, .int b]) (.tup [.int c, .int d]) = (a == c && b == d) := rfl
@[simp] theorem zbB {r : Bool} : truthy σ (.bool r) = some r := rfl
@[simp] theorem truthy_none : truthy σ .none = some false := rfl
end
end Mine
end
section
set_option linter.unusedVariables false
set_option linter.unusedSimpArgs false
namespace Mine
open PySem
theorem zb5 {C : Loc → Store → (Bool → Store → Prop) → Prop} {B : Loc → Store → (Loc → Store → Prop) → Prop} {Q : Loc → Store → Prop} (I : Nat → Loc → Store → Prop) (N : Nat) {ρ : Loc} {σ : Store}
    (h0 : I 0 ρ σ) (hN : ∀ k ρ σ, I k ρ σ → k ≤ N)
    (hs : ∀ k ρ σ (K : Loc → Store → Prop), I k ρ σ → (∀ ρ' σ', I (k + 1) ρ' σ' → K ρ' σ') → C ρ σ (fun b σ' => if b then B ρ σ' K else Q ρ σ')) : ∃ m, zep C B Q m ρ σ := by
  have key : ∀ d k ρ σ, k + d = N + 1 → I k ρ σ → zep C B Q d ρ σ := by
    intro d
    induction d with
    | zero => intro k ρ σ e h; have := hN k ρ σ h; lia
    | succ d ih => intro k ρ σ e h; exact hs k ρ σ _ h fun ρ' σ' h' => ih (k + 1) ρ' σ' (by lia) h'
  exact ⟨N + 1, key (N + 1) 0 ρ σ (by lia) h0⟩
noncomputable def zeD (n : Nat) (S : Nat → Bool) : List V := (List.range n).map fun i => V.bool (S i)
theorem zky {n : Nat} {S : Nat → Bool} : (zeD n S).length = n := by simp [zeD]
theorem zkz {n : Nat} {S : Nat → Bool} {j : Nat} (h : j < n) : (zeD n S)[j]? = some (.bool (S j)) := by
  simp [zeD, h]
theorem zkx {n : Nat} {S : Nat → Bool} {j : Nat} : (zeD n S).set j (.bool true) = zeD n (fun i => if i = j then true else S i) := by
  apply List.ext_getElem
  · simp [zeD]
  · intro i h1 h2
    simp only [zeD, List.length_set, List.length_map, List.length_range] at h1
    simp only [List.getElem_set, zeD, List.getElem_map, List.getElem_range]
    by_cases e : j = i
    · subst e; simp
    · have : i ≠ j := fun h => e h.symm
      simp [e, this]
theorem zb6 {σ : Store} {Q : Store → Prop} {a : Addr} {vs : List V} {i : Int} {x : V} (h : σ a = some (.list vs)) (h0 : 0 ≤ i) (h1 : i < vs.length) (q : Q (σ.upd a (.list (vs.set i.toNat x)))) : zbJ (.ref a) (.int i) x σ Q := by
  simp only [zbJ, h, zab]
  exact ⟨⟨h0, h1⟩, q⟩
end Mine
end
section
section
set_option linter.unusedVariables false
set_option linter.unusedSimpArgs false
namespace Mine
open PySem
theorem zbe {tab : String → String → Option Fn} {fld : String → String → Bool} {k : Nat} {md : Bool} {c f : String} {F : Fn} {vs : List V} {σ : Store} {Q : V → Store → Prop} {X : XP} (h : tab c f = some F) (w : wpFn (sem tab fld k) md F vs σ Q X) :
    (sem tab fld (k + 1) md).run c f vs σ Q X := by
  rw [zhF]
  show za9 (tab c f) _
  rw [h]; exact w
theorem zbz {k : Nat} {md : Bool} {c f : String} : (sem zba zbf k md).has c f = (zba c f).isSome := rfl
theorem zlU {k : Nat} {md : Bool} {c f : String} : (sem zba zbf k md).fld c f = (zbf c f = true) := rfl
section
variable {k : Nat} {md : Bool} {σ : Store} {Q : V → Store → Prop} {X : XP}
theorem zcj {c : Prop} [Decidable c] {A B : Prop} (h : c → A) (g : ¬ c → B) : if c then A else B := by
  by_cases x : c
  · rw [if_pos x]; exact h x
  · rw [if_neg x]; exact g x
theorem zeZ {c : Prop} [Decidable c] {A B : Prop} (x : c) (h : A) : if c then A else B := by rw [if_pos x]; exact h
theorem zj2 {c : Prop} [Decidable c] {A B : Prop} (x : ¬ c) (h : B) : if c then A else B := by rw [if_neg x]; exact h
theorem zaQ {α : Type} {o : Option α} {a : α} {K : α → Prop} (e : o = some a) (h : K a) : za9 o K := by rw [e]; exact h
theorem zbL {i n : Int} (h : 0 ≤ i) (h' : i < n) (q : Q (.bool true) σ) : (sem zba zbf (k + 1) md).run "" "is_place" [.int i, .int n] σ Q X := by
  refine zbe (F := zf5) rfl ⟨rfl, zeZ (c := decide (0 ≤ i) = true) (decide_eq_true h) ?_⟩
  show Q (.bool (decide (i < n))) σ
  rw [decide_eq_true h']; exact q
theorem sz2 : 2 ≤ zbb := by decide
end
end Mine
end
section
set_option linter.unusedVariables false
set_option linter.unusedSimpArgs false
namespace Mine
open PySem
noncomputable def zbi (n : Int) (p : Int × Int) : Prop := 0 ≤ p.1 ∧ p.1 < p.2 ∧ p.2 < n
noncomputable def zfs (n : Int) (T : List (Int × Int)) : Prop := T.Pairwise zbx ∧ ∀ p ∈ T, zbi n p
section
variable {k : Nat} {md : Bool} {σ : Store} {Q : V → Store → Prop} {X : XP}
theorem zjB {kd c a b n : Int} (h : ∀ r, Q (.bool r) σ) : (sem zba zbf (k + 1) md).run "" "_law_tied" [.int kd, .int c, .int a, .int b, .int n] σ Q X := by
  refine zbe (F := zf4) rfl ⟨rfl, ?_⟩
  refine zcj (c := (kd == 0) = true) (fun _ => ⟨by decide, h _⟩) fun _ => ?_
  refine zcj (c := (kd == 1) = true) (fun _ => ?_) fun _ => ?_
  · refine zcj (c := (b == a + 1) = false) (fun _ => ?_) (fun _ => h _)
    refine zcj (c := (a == 0) = true) (fun _ => ?_) (fun _ => ?_)
    · refine zcj (c := (b == n - 1) = false) (fun _ => ⟨by decide, h _⟩) (fun _ => h _)
    · refine zcj (c := (a == 0) = false) (fun _ => ⟨by decide, h _⟩) (fun _ => h _)
  refine zcj (c := (kd == 2) = true) (fun _ => ?_) fun _ => ?_
  · exact ⟨by decide, zcj (c := ((a + b).fmod 2 == 1) = true) (fun _ => ⟨by decide, h _⟩) (fun _ => h _)⟩
  refine zcj (c := (kd == 3) = true) (fun _ => ?_) fun _ => ⟨by decide, h _⟩
  have last : ∀ r : Bool, (if r = false then (if decide (1 < a) = true then ((0 : Int) < 3 ∧ (3 : Int) < 1000000000) ∧ ((0 : Int) < 3 ∧ (3 : Int) < 1000000000) ∧ Q (.bool ((a - 2).fdiv 3 == (b - 2).fdiv 3)) σ else Q (.bool (decide (1 < a))) σ) else Q (.bool r) σ) := fun r =>
    zcj (fun _ => zcj (fun _ => ⟨by decide, by decide, h _⟩) fun _ => h _) fun _ => h _
  refine zcj (c := decide (a < 2) = true) (fun _ => ⟨by decide, last _⟩) fun _ => last _
theorem zgi {vs : List V} {i : Int} {v : V} {K : V → Prop} (hi : 0 ≤ i) (hv : vs[i.toNat]? = some v) (h : K v) : zec (.int i) fun i => za9 (zi4 i vs.length) fun k => za9 vs[k]? K := by
  have e : zi4 i vs.length = some i.toNat := (if_pos hi).trans (if_pos (List.getElem?_eq_some_iff.mp hv).1)
  exact zaQ e (zaQ hv h)
theorem zbZ {a : Addr} {vs : List V} {i : Int} {v : V} {K : V → Prop} (ha : σ a = some (.list vs)) (hi : 0 ≤ i) (hv : vs[i.toNat]? = some v) (h : K v) : idxV (.ref a) (.int i) σ K :=
  Eq.mpr (zhI ha) (zgi hi hv h)
theorem zkf {vs : List V} {i : Int} {v : V} {K : V → Prop} (hl : vs.length ≤ zbb) (hi : 0 ≤ i) (hv : vs[i.toNat]? = some v) (h : K v) : idxV (.tup vs) (.int i) σ K := ⟨hl, zgi hi hv h⟩
theorem zgr {l : Addr} {ns : List Int} {i : Int} (hl : σ l = some (.fixed (ns.map V.int))) (hi : 0 ≤ i) (h : ∀ c, Q (.int c) σ) : (sem zba zbf (k + 1) md).run "" "_law_cell_at" [.ref l, .int i] σ Q X := by
  refine zbe (F := zc5) rfl ⟨rfl, ?_⟩
  simp only [zc5, zay, zak, zaF, zaj, zad, zac, zaW, zap, zaX, zaE, zaY, zaG, E_tt, E_ff, za2, za0, zaZ, zaL, za4, za1, zaU, zaV, zaC, zaD, zaM, zaI, zaH, E_m1, zaN, za3, zan, zaJ, zam, zao, E_b1, zaK, za5, zaP, zas, zar, zaq, zaB, zal, zaT, zav, I_r1, I_r2, I_r3, zaS, zau, zat, zaO, zag, zai, zah, zax, zaw, zaA, zaz, List.map_cons, List.map_nil, List.length_cons, List.length_nil, List.cons_append, List.nil_append, List.replicate, Nat.reduceAdd, Nat.reduceSub, Loc.get, zgz, zgs, zjs, zaa, tgOk, onT, zaf, true_and, zae, zss, zsz, zab, zn8 hl, zku, zbB, List.length_map, decide_eq_true_eq]
  refine zcj (fun x => Eq.mpr (zjO hl) (zgi (v := .int (ns[i.toNat]'(by lia))) hi ?_ (h _))) fun _ => h _
  rw [List.getElem?_map, List.getElem?_eq_getElem (by lia)]; rfl
theorem zl7 : (zba "" "_law_tied").isSome = true := rfl
theorem zhC : (zba "" "_law_cell_at").isSome = true := rfl
theorem zgH {l : Addr} {ns : List Int} {n kd : Int} (hl : σ l = some (.fixed (ns.map V.int))) (hn : 0 ≤ n) (hn' : n ≤ 40)
    (h : ∀ T a, σ a = none → zfs n T → T.length ≤ 1600 → Q (.ref a) (σ.upd a (.list (T.map pr)))) :
    (sem zba zbf (k + 2) true).run "" "_law_ties_by" [.ref l, .int n, .int kd] σ Q X := by
  refine zbe (F := zc2) rfl ⟨rfl, ?_⟩
  simp only [zc2, zay, zak, zaF, zaj, zad, zac, zaW, zap, zaX, zaE, zaY, zaG, E_tt, E_ff, za2, za0, zaZ, zaL, za4, za1, zaU, zaV, zaC, zaD, zaM, zaI, zaH, E_m1, zaN, za3, zan, zaJ, zam, zao, E_b1, zaK, za5, zaP, zas, zar, zaq, zaB, zal, zaT, zav, I_r1, I_r2, I_r3, zaS, zau, zat, zaO, zag, zai, zah, zax, zaw, zaA, zaz, List.map_cons, List.map_nil, List.length_cons, List.length_nil, List.cons_append, List.nil_append, List.replicate, Nat.reduceAdd, Nat.reduceSub, Loc.get, zgz, zgs, zjs, zaa, tgOk, onT, zaf, true_and, zae, zss, zsz, zab]
  refine ⟨by simp [zbb], ?_⟩
  intro a ha
  refine ⟨by lia, ?_⟩
  refine zbp (fun i ρ σ' => ∃ T, zfs n T ∧ (∀ p ∈ T, p.1 < i) ∧ T.length ≤ 40 * i ∧ σ' = σ.upd a (.list (T.map pr)) ∧ ∃ t4 t5 t6 t7, ρ = [some (.ref l), some (.int n), some (.int kd), some (.ref a), t4, t5, t6, t7])
    ⟨[], ⟨by simp, by simp⟩, by simp, by simp, by simp, _, _, _, _, rfl⟩ (fun _ _ _ _ => trivial) ?_ ?_
  · intro i v ρ σ' K hv zz13
    refine ob52 zz13 ?_
    clear zz13
    intro T hT hTi hTl ee110
    subst ee110
    intro t4 t5 t6 t7 ee111
    subst ee111
    intro hK
    refine ob14 (zbH hv) ?_
    intro ee112
    subst ee112
    intro hxn
    rw [Int.zero_add] at hxn ⊢
    simp only [zdD, zay, zak, zaF, zaj, zad, zac, zaW, zap, zaX, zaE, zaY, zaG, E_tt, E_ff, za2, za0, zaZ, zaL, za4, za1, zaU, zaV, zaC, zaD, zaM, zaI, zaH, E_m1, zaN, za3, zan, zaJ, zam, zao, E_b1, zaK, za5, zaP, zas, zar, zaq, zaB, zal, zaT, zav, I_r1, I_r2, I_r3, zaS, zau, zat, zaO, zag, zai, zah, zax, zaw, zaA, zaz, Loc.get, zgz, zgs, zjs, zaa, tgOk, onT, zaf, true_and, zae, zss, zsz, zab, zdN]
    refine ⟨by lia, ?_⟩
    refine zbp (fun j ρ σ' => ∃ T, zfs n T ∧ (∀ p ∈ T, p.1 < i ∨ (p.1 = i ∧ p.2 < i + 1 + j)) ∧ T.length ≤ 40 * i + j ∧ σ' = σ.upd a (.list (T.map pr)) ∧ ∃ t5 t6 t7, ρ = [some (.ref l), some (.int n), some (.int kd), some (.ref a), some (.int i), t5, t6, t7])
      ⟨T, hT, fun p hp => Or.inl (hTi p hp), by lia, rfl, _, _, _, rfl⟩ (fun _ _ _ _ => trivial) ?_ ?_
    · intro j v ρ σ' K2 hv zz14
      refine ob53 zz14 ?_
      clear zz14
      intro T hT hTi hTl ee113
      subst ee113
      intro t5 t6 t7 ee114
      subst ee114
      intro hK2
      refine ob14 (zbH hv) ?_
      intro ee115
      subst ee115
      intro hyn
      have hb : 0 ≤ ((((i : Int) + 1 + j) * ((i : Int) + 1 + j - 1)).fdiv 2 + i) ∧ ((((i : Int) + 1 + j) * ((i : Int) + 1 + j - 1)).fdiv 2 + i) ≤ 1700 := by
        have h1 : ((i : Int) + 1 + j) * ((i : Int) + 1 + j - 1) ≤ 40 * 40 := Int.mul_le_mul (by lia) (by lia) (by lia) (by lia)
        have h2 : 0 ≤ ((i : Int) + 1 + j) * ((i : Int) + 1 + j - 1) := Int.mul_nonneg (by lia) (by lia)
        generalize ((i : Int) + 1 + j) * ((i : Int) + 1 + j - 1) = w at *
        rw [Int.fdiv_eq_ediv_of_nonneg _ (by lia)]
        lia
      simp only [zdE, zay, zak, zaF, zaj, zad, zac, zaW, zap, zaX, zaE, zaY, zaG, E_tt, E_ff, za2, za0, zaZ, zaL, za4, za1, zaU, zaV, zaC, zaD, zaM, zaI, zaH, E_m1, zaN, za3, zan, zaJ, zam, zao, E_b1, zaK, za5, zaP, zas, zar, zaq, zaB, zal, zaT, zav, I_r1, I_r2, I_r3, zaS, zau, zat, zaO, zag, zai, zah, zax, zaw, zaA, zaz, Loc.get, zgz, zgs, zjs, zaa, tgOk, onT, zaf, true_and, zae, zss, zsz, zab, zbz, zhC, zdN, ziA, zlC, ziB, zgu]
      generalize ((((i : Int) + 1 + j) * ((i : Int) + 1 + j - 1)).fdiv 2 + i) = w at *
      refine ⟨by lia, by lia, by lia, zgr (ns := ns) ?_ ?_ ?_⟩
      · rw [za7 (zbF hl ha)]; exact hl
      · rw [Int.fmod_eq_emod_of_nonneg _ (by lia)]; lia
      · intro c
        refine ⟨by lia, ⟨by rw [Int.fdiv_eq_ediv_of_nonneg _ (by lia)]; lia, by decide⟩, ?_⟩
        generalize w.fdiv 24 = w'
        simp only [zdn, zay, zak, zaF, zaj, zad, zac, zaW, zap, zaX, zaE, zaY, zaG, E_tt, E_ff, za2, za0, zaZ, zaL, za4, za1, zaU, zaV, zaC, zaD, zaM, zaI, zaH, E_m1, zaN, za3, zan, zaJ, zam, zao, E_b1, zaK, za5, zaP, zas, zar, zaq, zaB, zal, zaT, zav, I_r1, I_r2, I_r3, zaS, zau, zat, zaO, zag, zai, zah, zax, zaw, zaA, zaz, Loc.get, zgz, zgs, zjs, zaa, tgOk, onT, zaf, true_and, zae, zss, zsz, zab, zbz, zl7, zdN, ziB, zgu]
        have h3 : 0 < 1 + (i : Int).fmod 3 ∧ 1 + (i : Int).fmod 3 < 1000000000 := by
          rw [Int.fmod_eq_emod_of_nonneg _ (by lia)]; lia
        refine ⟨by lia, h3, zjB ?_⟩
        intro r
        cases r with
        | false =>
          simp only [zbB, zaa, Bool.false_eq_true, if_false]
          refine hK2 _ _ ⟨T, hT, ?_, by lia, rfl, _, _, _, rfl⟩
          intro p hp
          have := hTi p hp
          lia
        | true =>
          simp only [zbB, zaa, if_true]
          refine zbc zaR ⟨by simp [zbb], zbc zaR ⟨by rw [List.length_map]; unfold zbb; lia, hK2 _ _ ⟨T ++ [((i : Int), (i : Int) + 1 + j)], ⟨?_, ?_⟩, ?_, ?_, ?_, _, _, _, rfl⟩⟩⟩
          · refine List.pairwise_append.mpr ⟨hT.1, by simp, ?_⟩
            intro p hp q hq
            simp at hq; subst hq
            have := hTi p hp
            unfold zbx; simp only; lia
          · intro p hp
            rcases List.mem_append.mp hp with hp | hp
            · exact hT.2 p hp
            · simp at hp; subst hp; unfold zbi; simp only; lia
          · intro p hp
            rcases List.mem_append.mp hp with hp | hp
            · have := hTi p hp; lia
            · rw [List.mem_singleton] at hp; subst hp; exact Or.inr ⟨rfl, show (i : Int) + 1 + j < (i : Int) + 1 + ((j + 1 : Nat) : Int) by lia⟩
          · simp; lia
          · rw [zb8, List.map_append]; rfl
    · intro ρ σ' zz15
      refine ob53 zz15 ?_
      clear zz15
      intro T hT hTi hTl ee116
      subst ee116
      intro t5 t6 t7 ee117
      subst ee117
      refine hK _ _ ⟨T, hT, ?_, ?_, rfl, _, _, _, _, rfl⟩
      · intro p hp
        have := hTi p hp
        lia
      · simp [zeI] at hTl
        lia
  · intro ρ σ' zz16
    refine ob52 zz16 ?_
    clear zz16
    intro T hT hTi hTl ee118
    subst ee118
    intro t4 t5 t6 t7 ee119
    subst ee119
    simp only [zdm, zay, zak, zaF, zaj, zad, zac, zaW, zap, zaX, zaE, zaY, zaG, E_tt, E_ff, za2, za0, zaZ, zaL, za4, za1, zaU, zaV, zaC, zaD, zaM, zaI, zaH, E_m1, zaN, za3, zan, zaJ, zam, zao, E_b1, zaK, za5, zaP, zas, zar, zaq, zaB, zal, zaT, zav, I_r1, I_r2, I_r3, zaS, zau, zat, zaO, zag, zai, zah, zax, zaw, zaA, zaz, Loc.get, zgz, zgs, zjs, zaa, tgOk, onT, zaf, true_and, zae, zss, zsz, zab]
    refine h T a ha hT ?_
    simp [zeI] at hTl
    lia
end
end Mine
end
section
set_option linter.unusedVariables false
set_option linter.unusedSimpArgs false
namespace Mine
open PySem
section
variable {k : Nat} {md : Bool} {σ : Store} {Q : V → Store → Prop} {X : XP}
theorem zl9 : (zba "" "_law_size_by").isSome = true := rfl
theorem zmb : (zba "" "_law_kind_by").isSome = true := rfl
theorem ziT : (zba "" "_law_ties_by").isSome = true := rfl
theorem zmJ {a b : Int} (h : 0 < b) : 0 ≤ a.fmod b ∧ a.fmod b < b := ⟨Int.fmod_nonneg_of_pos a h, Int.fmod_lt_of_pos a h⟩
theorem zgT {l : Addr} {ns : List Int} {m : Int} (hl : σ l = some (.fixed (ns.map V.int))) (hm : 0 < m) (h : ∀ n, 1 ≤ n → n ≤ m → Q (.int n) σ) : (sem zba zbf (k + 2) md).run "" "_law_size_by" [.ref l, .int m] σ Q X := by
  refine zbe (F := zc3) rfl ⟨rfl, ?_⟩
  simp only [zc3, zay, zak, zaF, zaj, zad, zac, zaW, zap, zaX, zaE, zaY, zaG, E_tt, E_ff, za2, za0, zaZ, zaL, za4, za1, zaU, zaV, zaC, zaD, zaM, zaI, zaH, E_m1, zaN, za3, zan, zaJ, zam, zao, E_b1, zaK, za5, zaP, zas, zar, zaq, zaB, zal, zaT, zav, I_r1, I_r2, I_r3, zaS, zau, zat, zaO, zag, zai, zah, zax, zaw, zaA, zaz, List.map_cons, List.map_nil, List.length_cons, List.length_nil, List.cons_append, List.nil_append, List.replicate, Nat.reduceAdd, Nat.reduceSub, Loc.get, zgz, zgs, zjs, zaa, tgOk, onT, zaf, true_and, zae, zss, zsz, zab, zbz, zhC]
  refine zgr (ns := ns) hl (by decide) fun c => ?_
  have := zmJ (a := c) hm
  exact ⟨hm, h _ (by lia) (by lia)⟩
theorem zg2 {l : Addr} {ns : List Int} (hl : σ l = some (.fixed (ns.map V.int))) (h : ∀ n, Q (.int n) σ) : (sem zba zbf (k + 2) md).run "" "_law_kind_by" [.ref l] σ Q X := by
  refine zbe (F := zc4) rfl ⟨rfl, ?_⟩
  simp only [zc4, zay, zak, zaF, zaj, zad, zac, zaW, zap, zaX, zaE, zaY, zaG, E_tt, E_ff, za2, za0, zaZ, zaL, za4, za1, zaU, zaV, zaC, zaD, zaM, zaI, zaH, E_m1, zaN, za3, zan, zaJ, zam, zao, E_b1, zaK, za5, zaP, zas, zar, zaq, zaB, zal, zaT, zav, I_r1, I_r2, I_r3, zaS, zau, zat, zaO, zag, zai, zah, zax, zaw, zaA, zaz, List.map_cons, List.map_nil, List.length_cons, List.length_nil, List.cons_append, List.nil_append, List.replicate, Nat.reduceAdd, Nat.reduceSub, Loc.get, zgz, zgs, zjs, zaa, tgOk, onT, zaf, true_and, zae, zss, zsz, zab, zbz, zhC]
  exact zgr (ns := ns) hl (by decide) fun c => ⟨by decide, h _⟩
end
end Mine
end
section
set_option linter.unusedVariables false
set_option linter.unusedSimpArgs false
namespace Mine
open PySem
noncomputable def nb1 (i : Int) (p : Int × Int) : List Int := (if p.1 = i then [p.2] else []) ++ (if p.2 = i then [p.1] else [])
noncomputable def nb (H : List (Int × Int)) (i : Int) : List Int := H.flatMap (nb1 i)
theorem zjY {i x : Int} {p : Int × Int} : x ∈ nb1 i p ↔ p = (i, x) ∨ p = (x, i) := by
  obtain ⟨a, b⟩ := p
  simp [nb1]
  constructor
  · rintro (⟨h1, h2⟩ | ⟨h1, h2⟩)
    · exact Or.inl ⟨h1, h2.symm⟩
    · exact Or.inr ⟨h2.symm, h1⟩
  · rintro (⟨h1, h2⟩ | ⟨h1, h2⟩)
    · exact Or.inl ⟨h1, h2.symm⟩
    · exact Or.inr ⟨h2, h1.symm⟩
theorem mem_nb {H : List (Int × Int)} {i x : Int} : x ∈ nb H i ↔ (i, x) ∈ H ∨ (x, i) ∈ H := by
  simp [nb, zjY]
  constructor
  · rintro ⟨a, b, h, h' | h'⟩ <;> obtain ⟨rfl, rfl⟩ := h'
    · exact Or.inl h
    · exact Or.inr h
  · rintro (h | h)
    · exact ⟨_, _, h, Or.inl ⟨rfl, rfl⟩⟩
    · exact ⟨_, _, h, Or.inr ⟨rfl, rfl⟩⟩
theorem zjU {H T : List (Int × Int)} {i : Int} : nb (H ++ T) i = nb H i ++ nb T i := by simp [nb]
theorem zij {n : Int} {H : List (Int × Int)} {i : Int} (hn : H.Nodup) (ht : ∀ p ∈ H, zbi n p) : (nb H i).Nodup := by
  induction H with
  | nil => simp [nb]
  | cons p H ih =>
    have h1 := ih (List.nodup_cons.mp hn).2 (fun q hq => ht q (List.mem_cons_of_mem _ hq))
    have h2 := (List.nodup_cons.mp hn).1
    have h3 := ht p (List.mem_cons_self ..)
    show (nb1 i p ++ nb H i).Nodup
    refine List.nodup_append.mpr ⟨?_, h1, ?_⟩
    · obtain ⟨a, b⟩ := p
      unfold zbi at h3
      simp only at h3
      simp only [nb1]
      split <;> split <;> simp
      lia
    · intro x hx y hy e
      subst e
      rw [zjY] at hx
      rw [mem_nb] at hy
      rcases hx with rfl | rfl <;> rcases hy with hy | hy
      · exact h2 hy
      · have := ht _ (List.mem_cons_of_mem _ hy); unfold zbi at this h3; simp only at this h3; lia
      · have := ht _ (List.mem_cons_of_mem _ hy); unfold zbi at this h3; simp only at this h3; lia
      · exact h2 hy
theorem zcA {m : Nat} : ∀ {l : List Int}, l.Nodup → (∀ x ∈ l, 0 ≤ x ∧ x < m) → l.length ≤ m := by
  induction m with
  | zero =>
    intro l _ h
    cases l with
    | nil => simp
    | cons a l => have := h a (List.mem_cons_self ..); lia
  | succ m ih =>
    intro l hn h
    have h1 := ih (hn.erase (m : Int)) (fun x hx => by
      have hx' := (hn.mem_erase_iff).mp hx
      have := h x hx'.2
      have := hx'.1
      lia)
    by_cases hm : (m : Int) ∈ l
    · rw [List.length_erase_of_mem hm] at h1; lia
    · rw [List.erase_of_not_mem hm] at h1; lia
theorem zjT {n : Int} {H : List (Int × Int)} {i : Int} (hn : H.Nodup) (ht : ∀ p ∈ H, zbi n p) (h0 : 0 ≤ n) (h40 : n ≤ 40) : (nb H i).length ≤ 40 := by
  refine zcA (zij hn ht) fun x hx => ?_
  rcases mem_nb.mp hx with h | h
  · have := ht _ h; unfold zbi at this; simp only at this; lia
  · have := ht _ h; unfold zbi at this; simp only at this; lia
noncomputable def zbt (l : List Int) : List Int := l.mergeSort (fun a b => decide (a ≤ b))
theorem zbV (l : List Int) : (zbt l).Perm l := List.mergeSort_perm _ _
theorem zgR (l : List Int) : (zbt l).Pairwise (· ≤ ·) := by
  have := List.pairwise_mergeSort (le := fun a b : Int => decide (a ≤ b)) (by simp; lia) (by simp; lia) l
  simpa [zbt] using this
theorem ints?_map (l : List Int) : ints? (l.map V.int) = some l := by
  induction l with
  | nil => rfl
  | cons a l ih =>
    show (ints? (l.map V.int)).map (a :: ·) = _
    rw [ih]; rfl
theorem zgN {l : List Int} (h : l.length < 64) : zeb (l.map V.int) = some ((zbt l).map V.int) := by
  simp [zeb, h, ints?_map, zbt]
end Mine
end
section
set_option linter.unusedVariables false
set_option linter.unusedSimpArgs false
namespace Mine
open PySem
noncomputable def Frm (d : Addr) (σ σ' : Store) : Prop := ∀ a o, a ≠ d → σ a = some o → σ' a = some o
theorem Frm.trans {d : Addr} {σ σ' σ'' : Store} (h : Frm d σ σ') (g : Frm d σ' σ'') : Frm d σ σ'' := fun a o n e => g a o n (h a o n e)
theorem Frm.ext {d : Addr} {σ σ' σ'' : Store} (h : Frm d σ σ') (g : Ext σ' σ'') : Frm d σ σ'' := fun a o n e => g a o (h a o n e)
theorem Frm.upd {d : Addr} {σ σ' : Store} {o : AO} (h : Frm d σ σ') : Frm d σ (σ'.upd d o) := fun a p n e => (za7 n).trans (h a p n e)
theorem Frm.none {d a : Addr} {σ σ' : Store} (h : Frm d σ σ') (n : a ≠ d) (g : σ' a = none) : σ a = none := by
  cases e : σ a with
  | none => rfl
  | some o => rw [h a o n e] at g; cases g
structure Rows (σ : Store) (r : Addr) (rs : List Addr) (n : Nat) (f : Nat → List Int) : Prop where
  top : σ r = some (.list (rs.map V.ref))
  len : rs.length = n
  nod : rs.Nodup
  row : ∀ i a, rs[i]? = some a → σ a = some (.list ((f i).map V.int))
section
variable {k : Nat} {σ : Store} {Q : V → Store → Prop} {X : XP}
theorem zk8 {n : Nat} (hn : n ≤ 1000) {items : List V} (hi : items.length = n) {σ : Store} {B : V → Store → (Option V → Store → Prop) → Prop} {Q : V → Store → Prop}
    (hB : ∀ v σ K, (∀ a, σ a = none → K (some (.ref a)) (σ.upd a (.list []))) → B v σ K)
    (h : ∀ r rs σ', Ext σ σ' → σ r = none → (∀ a ∈ rs, σ a = none) → r ∉ rs → Rows σ' r rs n (fun _ => []) → Q (.ref r) σ') :
    zcw (fun _ => True) B Q items [] σ := by
  refine ze6 (fun i acc σ' => ∃ rs, acc = rs.map V.ref ∧ rs.length = i ∧ rs.Nodup ∧ Ext σ σ' ∧ ∀ a ∈ rs, σ a = none ∧ σ' a = some (.list []))
    ⟨[], by simp, by simp, by simp, Ext.rfl, by simp⟩ ?_ (by unfold zbb; lia) ?_ ?_
  · intro i acc σ' zz17
    refine ob2 zz17 ?_
    clear zz17
    intro rs ee120
    subst ee120
    intro h1 _
    simp [h1]
  · intro i v acc σ' K hv zz18
    refine ob30 zz18 ?_
    clear zz18
    intro rs ee121
    subst ee121
    intro h1 h2 h3 h4
    intro hK
    refine hB v σ' K fun a ha => hK _ _ ⟨rs ++ [a], by simp, by simp [h1], ?_, h3.upd (h3.none ha), ?_⟩
    · refine List.nodup_append.mpr ⟨h2, by simp, ?_⟩
      intro x hx y hy e
      simp at hy; subst hy; subst e
      rw [(h4 x hx).2] at ha; cases ha
    · intro x hx
      rcases List.mem_append.mp hx with hx' | hx
      · refine ob14 (h4 x hx') ?_
        intro g1 g2
        refine ⟨g1, ?_⟩
        rw [za7 (zbF g2 ha)]
        exact g2
      · simp at hx; subst hx
        exact ⟨h3.none ha, zaR⟩
  · intro acc σ' zz19
    refine ob30 zz19 ?_
    clear zz19
    intro rs ee122
    subst ee122
    intro h1 h2 h3 h4
    intro r hr
    have hnot : r ∉ rs := fun hm => zdS (h4 r hm).2 hr
    refine h r rs _ (h3.upd (h3.none hr)) (h3.none hr) (fun a ha => (h4 a ha).1) hnot ⟨zaR, by lia, h2, ?_⟩
    intro i a ha
    have hm : a ∈ rs := List.mem_of_getElem? ha
    rw [za7 (zjX hm hnot)]
    simpa using (h4 a hm).2
theorem Rows.congr {σ : Store} {r : Addr} {rs : List Addr} {n : Nat} {f g : Nat → List Int} (h : Rows σ r rs n f) (e : ∀ i, i < n → f i = g i) : Rows σ r rs n g := by
  refine ⟨h.top, h.len, h.nod, fun i a ha => ?_⟩
  have hi : i < n := by
    rw [← h.len]
    rcases Nat.lt_or_ge i rs.length with g | g
    · exact g
    · rw [List.getElem?_eq_none g] at ha; cases ha
  rw [← e i hi]; exact h.row i a ha
theorem Rows.keep {σ σ' : Store} {r : Addr} {rs : List Addr} {n : Nat} {f : Nat → List Int} (h : Rows σ r rs n f) (e : ∀ a, a = r ∨ a ∈ rs → σ' a = σ a) : Rows σ' r rs n f :=
  ⟨by rw [e r (Or.inl rfl)]; exact h.top, h.len, h.nod, fun i a ha => by rw [e a (Or.inr (List.mem_of_getElem? ha))]; exact h.row i a ha⟩
theorem Rows.put {σ : Store} {r : Addr} {rs : List Addr} {n : Nat} {f : Nat → List Int} (h : Rows σ r rs n f) (hr : r ∉ rs) {i : Nat} {a : Addr} (ha : rs[i]? = some a) (l : List Int) :
    Rows (σ.upd a (.list (l.map V.int))) r rs n (fun j => if j = i then l else f j) := by
  have hm := List.mem_of_getElem? ha
  refine ⟨?_, h.len, h.nod, fun j b hb => ?_⟩
  · rw [za7 (zjX hm hr).symm]; exact h.top
  · by_cases hj : j = i
    · subst hj; rw [ha] at hb; cases hb; simp
    · have hab : b ≠ a := by
        rintro rfl
        have hi : i < rs.length := by
          rcases Nat.lt_or_ge i rs.length with g | g
          · exact g
          · rw [List.getElem?_eq_none g] at ha; cases ha
        exact hj ((List.getElem?_inj hi h.nod).mp (ha.trans hb.symm)).symm
      rw [za7 hab, if_neg hj]; exact h.row j b hb
theorem zbE {F : String → String → Prop} {x d : Addr} {c name : String} {fs : List (String × V)} {v : V} {K : V → Prop} (hx : σ x = some (.inst c d)) (hd : σ d = some (.ns fs)) (hF : F c name) (hl : fs.lookup name = some v) (h : K v) : zdl F (.ref x) name σ K := by
  exact zbl hx hd ⟨hF, zaQ hl h⟩
theorem zbA {a : Addr} {vs : List V} {x : V} (ha : σ a = some (.list vs)) (hl : vs.length < zbb) (h : Q .none (σ.upd a (.list (vs ++ [x])))) : m1V .append (.ref a) x σ Q := by
  exact zbc ha ⟨hl, h⟩
theorem zdj {p : Int × Int} {K : V → Prop} (h : K (.int p.1)) : idxV (pr p) (.int 0) σ K := zkf (by simp [zbb]) (by lia) rfl h
theorem zdi {p : Int × Int} {K : V → Prop} (h : K (.int p.2)) : idxV (pr p) (.int 1) σ K := zkf (by simp [zbb]) (by lia) rfl h
theorem zg3 {D : List (Int × Int)} : zcD (D.map pr) = true := by
  have : (D.map pr).all zgg = true := List.all_eq_true.mpr fun x hx => by
    refine ob7 (List.mem_map.mp hx) ?_
    intro p _ ee123
    subst ee123
    rfl
  show (_ || _) = true
  rw [this, Bool.or_true]
theorem zg8 {D : List (Int × Int)} {p : Int × Int} : zck (pr p) (D.map pr) = decide (p ∈ D) := by
  induction D with
  | nil => rfl
  | cons q D ih =>
    have : zck (pr p) ((q :: D).map pr) = (zhN (pr q) (pr p) || zck (pr p) (D.map pr)) := rfl
    rw [this, ih]
    refine lift fun gg back => ?_
    obtain ⟨a, b⟩ := p
    obtain ⟨c, d⟩ := q
    refine back ?_
    clear back gg
    rw [Bool.eq_iff_iff]
    simp [zg4, zlk, pr]
    constructor
    · rintro (⟨rfl, rfl⟩ | h)
      · exact Or.inl ⟨rfl, rfl⟩
      · exact Or.inr h
    · rintro (⟨rfl, rfl⟩ | h)
      · exact Or.inl ⟨rfl, rfl⟩
      · exact Or.inr h
theorem fldN {md : Bool} : (sem zba zbf k md).fld "Net" "rows" := by rw [zlU]; rfl
theorem fldS {md : Bool} : (sem zba zbf k md).fld "Net" "size" := by rw [zlU]; rfl
end
end Mine
end
section
set_option linter.unusedVariables false
set_option linter.unusedSimpArgs false
namespace Mine
open PySem
section
variable {k : Nat} {σ : Store} {Q : V → Store → Prop} {X : XP}
theorem znx {D : List (Int × Int)} {p : Int × Int} {i : Int} (h : p.1 ≠ p.2) : nb (D ++ [p]) i = if i = p.1 then nb D i ++ [p.2] else if i = p.2 then nb D i ++ [p.1] else nb D i := by
  rw [zjU]
  have : nb [p] i = nb1 i p := by simp [nb]
  rw [this]
  unfold nb1
  by_cases h1 : i = p.1
  · subst h1
    have h2 : ¬ (p.2 = p.1) := fun e => h e.symm
    simp [h2]
  · by_cases h2 : i = p.2
    · subst h2; simp [h, h1]
    · have h3 : ¬ (p.1 = i) := fun e => h1 e.symm
      have h4 : ¬ (p.2 = i) := fun e => h2 e.symm
      simp [h1, h2, h3, h4]
theorem zlm {x d r s w : Addr} {rs : List Addr} {n : Int} {D : List (Int × Int)} {p : Int × Int} {t5 t6 : Option V} {N R Y}
    (hx : σ x = some (.inst "Net" d)) (hd : σ d = some (.ns [("size", .int n), ("rows", .ref r)])) (hs : σ s = some (.dict (D.map pr)))
    (hR : Rows σ r rs n.toNat (fun i => nb D i)) (hr : r ∉ rs) (hxs : x ≠ s) (hds : d ≠ s) (hxr : x ∉ rs) (hdr : d ∉ rs) (hrs : r ≠ s) (hsr : s ∉ rs)
    (hD : D.length ≤ 2000) (hl : ∀ i, (nb D i).length ≤ 40) (hp : zbi n p) (hpD : p ∉ D)
    (hN : ∀ σ', (∀ a, a ≠ s → a ∉ rs → σ' a = σ a) → σ' s = some (.dict ((D ++ [p]).map pr)) → Rows σ' r rs n.toNat (fun i => nb (D ++ [p]) i) →
      N [some (.ref x), some (.int n), some (.ref w), some (.ref s), some (pr p), t5, t6] σ') :
    wpSs (sem zba zbf k) true zdC [some (.ref x), some (.int n), some (.ref w), some (.ref s), some (pr p), t5, t6] σ N R Y := by
  refine ob16 hp ?_
  clear hp
  intro h0 h1 h2
  have ha : p.1.toNat < rs.length := by rw [hR.len]; lia
  have hb : p.2.toNat < rs.length := by rw [hR.len]; lia
  obtain ⟨a, ha⟩ : ∃ a, rs[p.1.toNat]? = some a := ⟨_, List.getElem?_eq_getElem ha⟩
  obtain ⟨b, hb⟩ : ∃ a, rs[p.2.toNat]? = some a := ⟨_, List.getElem?_eq_getElem hb⟩
  have hma := List.mem_of_getElem? ha
  have hmb := List.mem_of_getElem? hb
  have ne {z : Addr} (h : z ∉ rs) {y : Addr} (g : y ∈ rs) : z ≠ y := fun e => h (e ▸ g)
  have hnk : zci (pr p) (D.map pr) = (D ++ [p]).map pr := by
    rw [zci, zg8, decide_eq_false hpD, List.map_append]; rfl
  have hko : zcD (pr p :: D.map pr) = true := zg3 (D := p :: D)
  simp only [zdC, zay, zak, zaF, zaj, zad, zac, zaW, zap, zaX, zaE, zaY, zaG, E_tt, E_ff, za2, za0, zaZ, zaL, za4, za1, zaU, zaV, zaC, zaD, zaM, zaI, zaH, E_m1, zaN, za3, zan, zaJ, zam, zao, E_b1, zaK, za5, zaP, zas, zar, zaq, zaB, zal, zaT, zav, I_r1, I_r2, I_r3, zaS, zau, zat, zaO, zag, zai, zah, zax, zaw, zaA, zaz, Loc.get, zbJ, hs, zgz, zgs, zjs, zaa]
  refine ⟨⟨hko, by rw [List.length_map]; unfold zbb; lia, trivial⟩, ?_⟩
  rw [hnk]
  have hR1 : Rows (σ.upd s (.dict ((D ++ [p]).map pr))) r rs n.toNat (fun i => nb D i) := hR.keep fun z hz => za7 (hz.elim (fun e => e ▸ hrs) fun m e => hsr (e ▸ m))
  refine zbE ((za7 hxs).trans hx) ((za7 hds).trans hd) fldN rfl ?_
  refine zdj (zbZ hR1.top h0 (by rw [List.getElem?_map, ha]; rfl) ?_)
  refine zbc (hR1.row _ _ ha) (zdi (zbA (hR1.row _ _ ha) ?_ ?_))
  · have := hl p.1.toNat; rw [List.length_map]; unfold zbb; lia
  have e1 : (nb D ↑p.1.toNat).map V.int ++ [V.int p.2] = (nb D ↑p.1.toNat ++ [p.2]).map V.int := by simp
  rw [e1]
  have hR2 := hR1.put hr ha (nb D ↑p.1.toNat ++ [p.2])
  refine zbE ((za7 (ne hxr hma)).trans ((za7 hxs).trans hx)) ((za7 (ne hdr hma)).trans ((za7 hds).trans hd)) fldN rfl ?_
  refine zdi (zbZ hR2.top (by lia) (by rw [List.getElem?_map, hb]; rfl) ?_)
  have h5 : p.2.toNat ≠ p.1.toNat := by lia
  have hrow := hR2.row _ _ hb
  simp only [if_neg h5] at hrow
  refine zbc hrow (zdj (zbA hrow ?_ ?_))
  · have := hl p.2.toNat; rw [List.length_map]; unfold zbb; lia
  have e2 : (nb D ↑p.2.toNat).map V.int ++ [V.int p.1] = (nb D ↑p.2.toNat ++ [p.1]).map V.int := by simp
  rw [e2]
  have hR3 := hR2.put hr hb (nb D ↑p.2.toNat ++ [p.1])
  refine hN _ ?_ ?_ ?_
  · intro z hz hz'
    rw [za7 (ne hz' hmb), za7 (ne hz' hma), za7 hz]
  · rw [za7 (ne hsr hmb), za7 (ne hsr hma)]; exact zaR
  · refine hR3.congr fun i hi => ?_
    rw [znx (by lia)]
    by_cases g1 : i = p.1.toNat
    · subst g1
      rw [if_neg (fun e => h5 e.symm), if_pos rfl, if_pos (by lia)]
    · by_cases g2 : i = p.2.toNat
      · subst g2
        rw [if_pos rfl, if_neg (by lia), if_pos (by lia)]
      · rw [if_neg g2, if_neg g1, if_neg (by lia), if_neg (by lia)]
end
end Mine
end
section
set_option linter.unusedVariables false
set_option linter.unusedSimpArgs false
namespace Mine
open PySem
section
variable {k : Nat} {σ : Store} {Q : V → Store → Prop} {X : XP}
theorem zgI : (zba "" "is_tie").isSome = true := rfl
theorem zdU : (zba "" "is_place").isSome = true := rfl
theorem ze0 {md : Bool} {n : Int} {p : Int × Int} (h : zbi n p) (q : Q (.bool true) σ) : (sem zba zbf (k + 2) md).run "" "is_tie" [pr p, .int n] σ Q X := by
  refine zbe (F := ziP) rfl ⟨rfl, sz2, sz2, ?_⟩
  refine zbL h.1 (Int.lt_trans h.2.1 h.2.2) ⟨sz2, zbL (Int.le_trans h.1 (Int.le_of_lt h.2.1)) h.2.2 ⟨sz2, sz2, ?_⟩⟩
  show Q (.bool (decide (p.1 < p.2))) σ
  rw [decide_eq_true h.2.1]; exact q
theorem zg6 {x d r s w : Addr} {rs : List Addr} {n : Int} {D : List (Int × Int)} {p : Int × Int} {t5 t6 : Option V} {N R Y}
    (hx : σ x = some (.inst "Net" d)) (hd : σ d = some (.ns [("size", .int n), ("rows", .ref r)])) (hs : σ s = some (.dict (D.map pr)))
    (hR : Rows σ r rs n.toNat (fun i => nb D i)) (hr : r ∉ rs) (hxs : x ≠ s) (hds : d ≠ s) (hxr : x ∉ rs) (hdr : d ∉ rs) (hrs : r ≠ s) (hsr : s ∉ rs)
    (hD : D.length ≤ 2000) (hl : ∀ i, (nb D i).length ≤ 40) (hp : zbi n p) (hpD : p ∉ D)
    (hN : ∀ σ', (∀ a, a ≠ s → a ∉ rs → σ' a = σ a) → σ' s = some (.dict ((D ++ [p]).map pr)) → Rows σ' r rs n.toNat (fun i => nb (D ++ [p]) i) →
      N [some (.ref x), some (.int n), some (.ref w), some (.ref s), some (pr p), t5, t6] σ') :
    wpSs (sem zba zbf (k + 2)) true zdF [some (.ref x), some (.int n), some (.ref w), some (.ref s), some (pr p), t5, t6] σ N R Y := by
  have hko : zcD (pr p :: D.map pr) = true := zg3 (D := p :: D)
  simp only [zdF, zay, zak, zaF, zaj, zad, zac, zaW, zap, zaX, zaE, zaY, zaG, E_tt, E_ff, za2, za0, zaZ, zaL, za4, za1, zaU, zaV, zaC, zaD, zaM, zaI, zaH, E_m1, zaN, za3, zan, zaJ, zam, zao, E_b1, zaK, za5, zaP, zas, zar, zaq, zaB, zal, zaT, zav, I_r1, I_r2, I_r3, zaS, zau, zat, zaO, zag, zai, zah, zax, zaw, zaA, zaz, Loc.get, zgz, zgs, zjs, zaa, zbz, zgI, onT, true_and]
  refine ze0 hp ?_
  simp only [zbB, zaa, Bool.not_true, Bool.false_eq_true, if_true, zhZ, zb7, zgp, zhY, inV, hs, hko, zg8, hpD, decide_false, if_false]
  exact zlm hx hd hs hR hr hxs hds hxr hdr hrs hsr hD hl hp hpD hN
theorem zka {x d r s w : Addr} {rs : List Addr} {n : Int} {H : List (Int × Int)} {t4 t5 t6 : Option V} {R Y} {N : Loc → Store → Prop}
    (hx : σ x = some (.inst "Net" d)) (hd : σ d = some (.ns [("size", .int n), ("rows", .ref r)])) (hxd : x ≠ d)
    (hR : Rows σ r rs n.toNat (fun i => nb H i)) (hdr : d ∉ rs) (hrd : r ≠ d) (hn : n ≤ 40) (hl : ∀ i, (nb H i).length ≤ 40)
    (hN : ∀ σ' r' rs' ρ, Frm d σ σ' → σ' d = some (.ns [("size", .int n), ("rows", .ref r')]) → Rows σ' r' rs' n.toNat (fun i => zbt (nb H i)) → σ r' = none → (∀ a ∈ rs', σ a = none) → r' ∉ rs' → N ρ σ') :
    wpSs (sem zba zbf k) true zdB [some (.ref x), some (.int n), some (.ref w), some (.ref s), t4, t5, t6] σ N R Y := by
  simp only [zdB, zay, zak, zaF, zaj, zad, zac, zaW, zap, zaX, zaE, zaY, zaG, E_tt, E_ff, za2, za0, zaZ, zaL, za4, za1, zaU, zaV, zaC, zaD, zaM, zaI, zaH, E_m1, zaN, za3, zan, zaJ, zam, zao, E_b1, zaK, za5, zaP, zas, zar, zaq, zaB, zal, zaT, zav, I_r1, I_r2, I_r3, zaS, zau, zat, zaO, zag, zai, zah, zax, zaw, zaA, zaz, I_r1, I_r2, I_r3, zaS, zlJ, zau, ziO, zat, zgy, zag, zai, zah, Loc.get, zgz, zgs, zjs, zaa, onT, true_and, zax, zaw, if_true, zbo, zss, zsz]
  refine zbE hx hd fldN rfl ?_
  simp only [zcY]
  refine zbc hR.top ?_
  have key : ∀ (j : Nat) a, rs[j]? = some a → σ a = some (.list ((nb H j).map V.int)) := fun j a h => hR.row j a h
  refine ze6 (fun i acc σ' => ∃ rs', acc = rs'.map V.ref ∧ rs'.length = i ∧ rs'.Nodup ∧ Ext σ σ' ∧ (∀ a ∈ rs', σ a = none) ∧ ∀ (j : Nat) a, rs'[j]? = some a → σ' a = some (.list ((zbt (nb H j)).map V.int)))
    ⟨[], by simp, by simp, by simp, Ext.rfl, by simp, by simp⟩ ?_ (by rw [List.length_map, hR.len]; unfold zbb; lia) ?_ ?_
  · intro i acc σ' zz20
    refine ob30 zz20 ?_
    clear zz20
    intro rs' ee124
    subst ee124
    intro h1 _ h3 _
    exact ⟨h3 _ _ hR.top, by simp [h1]⟩
  · intro i v acc σ' K hv zz21
    refine ob50 zz21 ?_
    clear zz21
    intro rs' ee125
    subst ee125
    intro h1 h2 h3 h4 h5
    intro hK
    rw [List.getElem?_map] at hv
    refine ob7 (Option.map_eq_some_iff.mp hv) ?_
    intro a ha ee126
    subst ee126
    have hrow := h3 _ _ (key i a ha)
    simp only [zfb, zgv]
    refine Or.inl (zi7 hrow ?_)
    rw [zgN (by have := hl i; lia)]
    intro b hb
    refine hK _ _ ⟨rs' ++ [b], by simp, by simp [h1], ?_, h3.upd (h3.none hb), ?_, ?_⟩
    · refine List.nodup_append.mpr ⟨h2, by simp, ?_⟩
      intro y hy z hz e
      refine ob12 (List.mem_iff_getElem?.mp hy) ?_
      intro j hj
      exact zdS (h5 j y hj) (e.trans (List.mem_singleton.mp hz) ▸ hb)
    · intro y hy
      exact (List.mem_append.mp hy).elim (h4 y) fun e => List.mem_singleton.mp e ▸ h3.none hb
    · intro j y hy
      by_cases hj : j < rs'.length
      · rw [List.getElem?_append_left hj] at hy
        have := h5 j y hy
        exact (za7 (zbF this hb)).trans this
      · rw [List.getElem?_append_right (Nat.not_lt.mp hj), List.getElem?_singleton] at hy
        split at hy
        · cases hy
          rw [show j = i by lia]; exact zaR
        · cases hy
  · intro acc σ' zz22
    refine ob50 zz22 ?_
    clear zz22
    intro rs' ee127
    subst ee127
    intro h1 h2 h3 h4 h5
    intro r' hr'
    have hrd' : r' ≠ d := zgW hr' (h3 _ _ hd)
    have hrx' : r' ≠ x := zgW hr' (h3 _ _ hx)
    have hnot : r' ∉ rs' := fun hm => (List.mem_iff_getElem?.mp hm).elim fun j hj => zdS (h5 j r' hj) hr'
    have hdn : ∀ a ∈ rs', a ≠ d := fun a ha => zgW (h4 _ ha) hd
    simp only [zd5]
    refine zbl (c := "Net") (d := d) (fs := [("size", .int n), ("rows", .ref r)]) ((za7 hrx'.symm).trans (h3 _ _ hx)) ((za7 hrd'.symm).trans (h3 _ _ hd)) ⟨⟨fldN, show 2 < 100 by decide⟩, ?_⟩
    refine hN _ r' rs' _ ?_ ?_ ⟨?_, ?_, h2, ?_⟩ (h3.none hr') h4 hnot
    · exact Frm.upd (fun a o _ e => (h3.upd (h3.none hr')) a o e)
    · rw [zaR]; rfl
    · rw [za7 hrd', zaR]
    · rw [h1, List.length_map, hR.len]
    · intro i a ha
      have hm := List.mem_of_getElem? ha
      rw [za7 (hdn a hm), za7 (zjX hm hnot)]
      exact h5 i a ha
end
end Mine
end
section
set_option linter.unusedVariables false
set_option linter.unusedSimpArgs false
namespace Mine
open PySem
section
variable {k : Nat} {σ : Store} {Q : V → Store → Prop} {X : XP}
theorem zkm {l : List (Int × Int)} {i : Nat} {v : V} (h : (l.map pr)[i]? = some v) : ∃ (hi : i < l.length), v = pr l[i] := by
  rw [List.getElem?_map] at h
  refine ob7 (Option.map_eq_some_iff.mp h) ?_
  intro y hy ee128
  subst ee128
  refine ob12 (List.getElem?_eq_some_iff.mp hy) ?_
  intro hi ee129
  subst ee129
  exact ⟨hi, rfl⟩
theorem Rows.at {r : Addr} {rs : List Addr} {n : Nat} {f : Nat → List Int} (h : Rows σ r rs n f) {a : Addr} (m : a ∈ rs) : ∃ vs, σ a = some (.list vs) := by
  refine ob12 (List.mem_iff_getElem?.mp m) ?_
  intro j hj
  exact ⟨_, h.row j a hj⟩
theorem zg7 {x d w : Addr} {n : Int} {H : List (Int × Int)} (hx : σ x = some (.inst "Net" d)) (hd : σ d = some (.ns [])) (hxd : x ≠ d)
    (hw : σ w = some (.list (H.map pr))) (h1 : 1 ≤ n) (h2 : n ≤ 40) (hH : H.Nodup) (hT : ∀ p ∈ H, zbi n p) (hlen : H.length ≤ 2000)
    (hQ : ∀ σ' r rs, Frm d σ σ' → σ' d = some (.ns [("size", .int n), ("rows", .ref r)]) → Rows σ' r rs n.toNat (fun i => zbt (nb H i)) → σ r = none → (∀ a ∈ rs, σ a = none) → r ∉ rs → Q .none σ') :
    (sem zba zbf (k + 3) true).run "Net" "__init__" [.ref x, .int n, .ref w] σ Q X := by
  refine zbe (F := zen) rfl ⟨rfl, ?_⟩
  simp only [zen, zay, zak, zaF, zaj, zad, zac, zaW, zap, zaX, zaE, zaY, zaG, E_tt, E_ff, za2, za0, zaZ, zaL, za4, za1, zaU, zaV, zaC, zaD, zaM, zaI, zaH, E_m1, zaN, za3, zan, zaJ, zam, zao, E_b1, zaK, za5, zaP, zas, zar, zaq, zaB, zal, zaT, zav, I_r1, I_r2, I_r3, zaS, zau, zat, zaO, zag, zai, zah, zax, zaw, zaA, zaz, List.map_cons, List.map_nil, List.length_cons, List.length_nil, List.cons_append, List.nil_append, List.replicate, Nat.reduceAdd, Nat.reduceSub, Loc.get, zgz, zgs, zjs, zaa, tgOk, onT, zaf, true_and, zae, zss, zsz, zab, zbz, zdU, zkk, zdN]
  refine zbL (by lia) (by lia) (go_b (zef (zaQ (congrArg some (decide_eq_false (Int.not_lt.mpr h1))) (zef (zaQ (isl hw) (go_b (zbv ?_)))))))
  simp only [zey, zay, zak, zaF, zaj, zad, zac, zaW, zap, zaX, zaE, zaY, zaG, E_tt, E_ff, za2, za0, zaZ, zaL, za4, za1, zaU, zaV, zaC, zaD, zaM, zaI, zaH, E_m1, zaN, za3, zan, zaJ, zam, zao, E_b1, zaK, za5, zaP, zas, zar, zaq, zaB, zal, zaT, zav, I_r1, I_r2, I_r3, zaS, zau, zat, zaO, zag, zai, zah, zax, zaw, zaA, zaz, Loc.get, zgz, zgs, zjs, zaa, tgOk, onT, zaf, true_and, zae, zss, zsz, zab]
  refine zbl hx hd ⟨⟨fldS, by decide⟩, ⟨by lia, by lia⟩, ?_⟩
  refine zk8 (n := n.toNat) (by lia) (by rw [List.length_map, zcU]) (fun v σ' K h => ⟨Nat.zero_le _, h⟩) ?_
  intro r rs σ2 hE hr hrs hrr hR
  have hxu : (σ.upd d (.ns [("size", .int n)])) x = some (.inst "Net" d) := (za7 hxd).trans hx
  have hwd : w ≠ d := zcB hw hd (fun e => by cases e)
  have hwu : (σ.upd d (.ns [("size", .int n)])) w = some (.list (H.map pr)) := (za7 hwd).trans hw
  have hxr : x ∉ rs := fun h => zdS hxu (hrs _ h)
  have hdr : d ∉ rs := fun h => zdS zaR (hrs _ h)
  have hrd : r ≠ d := zgW hr zaR
  have hx2 := hE _ _ hxu
  have hd2 : σ2 d = some (.ns [("size", .int n)]) := hE _ _ zaR
  refine zbl hx2 hd2 ⟨⟨fldN, show 1 < 100 by decide⟩, ?_⟩
  show wpSs _ _ zdA _ (σ2.upd d (.ns [("size", .int n), ("rows", .ref r)])) _ _ _
  simp only [zdA, zay, zak, zaF, zaj, zad, zac, zaW, zap, zaX, zaE, zaY, zaG, E_tt, E_ff, za2, za0, zaZ, zaL, za4, za1, zaU, zaV, zaC, zaD, zaM, zaI, zaH, E_m1, zaN, za3, zan, zaJ, zam, zao, E_b1, zaK, za5, zaP, zas, zar, zaq, zaB, zal, zaT, zav, I_r1, I_r2, I_r3, zaS, zau, zat, zaO, zag, zai, zah, zax, zaw, zaA, zaz, Loc.get, zgz, zgs, zjs, zaa, tgOk, onT, zaf, true_and, zae, zss, zsz, zab, alloc, zcY]
  intro s hs
  have hsd : s ≠ d := zgW hs zaR
  rw [za7 hsd] at hs
  have hsx : x ≠ s := zbF hx2 hs
  have hsr : r ≠ s := zbF hR.top hs
  have hsrs : s ∉ rs := fun h => (hR.at h).elim fun _ e => zdS e hs
  have hw2 := hE _ _ hwu
  have hws : w ≠ s := zbF hw2 hs
  have hwrs : w ∉ rs := fun h => zdS hwu (hrs _ h)
  have frs : ∀ a, a ≠ d → (a = s ∨ a ∈ rs) → σ a = none := fun a had h => (za7 had).symm.trans (h.elim (fun e => (congrArg _ e).trans (hE.none hs)) (hrs a))
  refine zbc ((za7 hws).trans ((za7 hwd).trans hw2)) ?_
  refine zbp (fun j ρ σ' => σ' s = some (.dict ((H.take j).map pr)) ∧ Rows σ' r rs n.toNat (fun i => nb (H.take j) i) ∧
      (∀ a, a ≠ s → a ∉ rs → σ' a = ((σ2.upd d (.ns [("size", .int n), ("rows", .ref r)])).upd s (.dict [])) a) ∧ ∃ t4 t5 t6, ρ = [some (.ref x), some (.int n), some (.ref w), some (.ref s), t4, t5, t6])
    ⟨zaR, ?_, fun _ _ _ => rfl, _, _, _, rfl⟩ ?_ ?_ ?_
  · refine (hR.congr (fun i _ => rfl)).keep fun a ha => ?_
    have n1 : a ≠ s := ha.elim (fun e => e ▸ hsr) fun z e => hsrs (e ▸ z)
    have n2 : a ≠ d := ha.elim (fun e => e ▸ hrd) fun z e => hdr (e ▸ z)
    rw [za7 n1, za7 n2]
  · intro j ρ σ' zz23
    refine ob54 zz23 ?_
    clear zz23
    intro _ _ h _
    rw [h w hws hwrs, za7 hws, za7 hwd]; exact hw2
  · intro j v ρ σ' K hv zz24
    refine ob55 zz24 ?_
    clear zz24
    intro hs' hR' hfr t4 t5 t6 ee130
    subst ee130
    intro hK
    simp only [zae, zss, zsz, zaa]
    refine ob12 (zkm hv) ?_
    intro hjl ee131
    subst ee131
    have htake : H.take (j + 1) = H.take j ++ [H[j]] := List.take_succ_eq_append_getElem hjl
    refine zg6 (d := d) (r := r) (rs := rs) (D := H.take j) ?_ ?_ hs' hR' hrr hsx hsd.symm hxr hdr hsr hsrs (by rw [List.length_take]; lia) ?_ (hT _ (List.getElem_mem hjl)) ?_ ?_
    · rw [hfr x hsx hxr, za7 hsx, za7 hxd]; exact hx2
    · rw [hfr d hsd.symm hdr, za7 hsd.symm, zaR]
    · exact fun i => zjT (n := n) (hH.sublist (List.take_sublist ..)) (fun q hq => hT q (List.mem_of_mem_take hq)) (by lia) h2
    · intro hm
      have h5 := hH.sublist (List.take_sublist (j + 1) H)
      rw [htake, List.nodup_append] at h5
      exact h5.2.2 _ hm _ (List.mem_singleton.mpr rfl) rfl
    · intro σ'' g1 g2 g3
      rw [← htake] at g2 g3
      exact hK _ _ ⟨g2, g3, fun a ha ha' => (g1 a ha ha').trans (hfr a ha ha'), _, _, _, rfl⟩
  · intro ρ σ' zz25
    refine ob55 zz25 ?_
    clear zz25
    intro hs' hR' hfr t4 t5 t6 ee132
    subst ee132
    rw [List.length_map, List.take_length] at hR'
    have hF' : Frm d σ σ' := fun a o had e => by
      have has : a ≠ s := fun z => zdS e (frs a had (.inl z))
      rw [hfr a has (fun z => zdS e (frs a had (.inr z))), za7 has, za7 had]
      exact hE _ _ ((za7 had).trans e)
    have hdu : σ' d = some (.ns [("size", .int n), ("rows", .ref r)]) := by rw [hfr d hsd.symm hdr, za7 hsd.symm, zaR]
    refine zka (d := d) (r := r) (rs := rs) (H := H) ?_ hdu hxd hR' hdr hrd h2 (fun i => zjT (n := n) hH hT (by lia) h2) ?_
    · rw [hfr x hsx hxr, za7 hsx, za7 hxd]; exact hx2
    · intro σ'' r' rs' ρ g1 g2 g3 g4 g5 g6
      exact hQ σ'' r' rs' (hF'.trans g1) g2 g3 (hF'.none (zgW g4 hdu) g4) (fun a ha => hF'.none (zgW (g5 a ha) hdu) (g5 a ha)) g6
end
end Mine
end
section
set_option linter.unusedVariables false
set_option linter.unusedSimpArgs false
namespace Mine
open PySem
noncomputable def zcV (H : List (Int × Int)) (i : Nat) : List (Int × Int) := ((zbt (nb H i)).filter (fun x => decide ((i : Int) < x))).map (fun x => ((i : Int), x))
noncomputable def zca (H : List (Int × Int)) (n : Nat) : List (Int × Int) := (List.range n).flatMap (zcV H)
theorem zeL {H : List (Int × Int)} {n : Nat} : zca H (n + 1) = zca H n ++ zcV H n := by
  simp [zca, List.range_succ]
theorem zcc {T : List (Int × Int)} (h : T.Pairwise zbx) : T.Nodup := h.imp (by
  intro zz26
  obtain ⟨a, b⟩ := zz26
  intro zz27
  obtain ⟨c, d⟩ := zz27
  intro h e
  cases e
  unfold zbx at h; simp only at h; lia)
theorem zhD {l : List Int} (h : l.Nodup) : (zbt l).Nodup := (zbV l).nodup_iff.mpr h
theorem zgQ {l : List Int} (h : l.Nodup) : (zbt l).Pairwise (· < ·) := by
  have h1 := zgR l
  have h2 := zhD h
  exact (h1.and h2).imp (by rintro a b ⟨x, y⟩; have : a ≠ b := y; lia)
theorem zfw {n : Int} {H : List (Int × Int)} {i : Nat} (hn : H.Nodup) (ht : ∀ p ∈ H, zbi n p) : (zcV H i).Pairwise zbx := by
  unfold zcV
  rw [List.pairwise_map]
  exact ((zgQ (zij hn ht)).filter _).imp (by intro a b h; exact Or.inr ⟨rfl, h⟩)
theorem mem_tiesRow {H : List (Int × Int)} {i : Nat} {p : Int × Int} : p ∈ zcV H i ↔ p.1 = i ∧ (i : Int) < p.2 ∧ p.2 ∈ nb H i := by
  unfold zcV
  simp only [List.mem_map, List.mem_filter, (zbV _).mem_iff, decide_eq_true_eq]
  constructor
  · intro zz28
    refine ob24 zz28 ?_
    clear zz28
    intro x h1 h2 ee133
    subst ee133
    exact ⟨rfl, h2, h1⟩
  · intro zz29
    refine ob16 zz29 ?_
    clear zz29
    intro h1 h2 h3
    exact ⟨p.2, ⟨h3, h2⟩, by rw [← h1]⟩
theorem zf6 {n : Int} {H : List (Int × Int)} {m : Nat} (hn : H.Nodup) (ht : ∀ p ∈ H, zbi n p) : (zca H m).Pairwise zbx := by
  unfold zca
  rw [List.pairwise_flatMap]
  refine ⟨fun i _ => zfw hn ht, ?_⟩
  refine List.pairwise_lt_range.imp ?_
  intro a b hab x hx y hy
  have h1 := (mem_tiesRow.mp hx).1
  have h2 := (mem_tiesRow.mp hy).1
  exact Or.inl (by lia)
theorem zjA {n : Int} {H T : List (Int × Int)} (hT : zfs n T) (hp : T.Perm H) : zca H n.toNat = T := by
  have hTn := zcc hT.1
  have hHn : H.Nodup := hp.nodup_iff.mp hTn
  have ht : ∀ p ∈ H, zbi n p := fun p h => hT.2 p (hp.mem_iff.mpr h)
  have h1 := zf6 (m := n.toNat) hHn ht
  have h2 : (zca H n.toNat).Perm T := by
    rw [List.perm_ext_iff_of_nodup (zcc h1) hTn]
    intro p
    simp only [zca, List.mem_flatMap, List.mem_range, mem_tiesRow, mem_nb]
    constructor
    · rintro ⟨i, hi, h1, h2, h3 | h3⟩
      · rw [← h1] at h3; exact hp.mem_iff.mpr h3
      · have := ht _ h3; unfold zbi at this; simp only at this; lia
    · intro h
      have h5 := hT.2 p h
      unfold zbi at h5
      have h6 := hp.mem_iff.mp h
      refine ⟨p.1.toNat, by lia, by lia, by lia, Or.inl ?_⟩
      rw [show ((p.1.toNat : Nat) : Int) = p.1 by lia]
      exact h6
  exact List.Perm.eq_of_pairwise (fun a b _ _ x y => by unfold zbx at x y; lia) h1 hT.1 h2
structure NetAt (σ : Store) (x d r : Addr) (rs : List Addr) (n : Int) (H : List (Int × Int)) : Prop where
  top : σ x = some (.inst "Net" d)
  dic : σ d = some (.ns [("size", .int n), ("rows", .ref r)])
  rows : Rows σ r rs n.toNat (fun i => zbt (nb H i))
  lo : 1 ≤ n
  hi : n ≤ 40
  nod : H.Nodup
  ok : ∀ p ∈ H, zbi n p
theorem Rows.ext {σ σ' : Store} {r : Addr} {rs : List Addr} {n : Nat} {f : Nat → List Int} (h : Rows σ r rs n f) (e : Ext σ σ') : Rows σ' r rs n f :=
  ⟨e _ _ h.top, h.len, h.nod, fun i a ha => e _ _ (h.row i a ha)⟩
theorem NetAt.ext {σ σ' : Store} {x d r : Addr} {rs : List Addr} {n : Int} {H : List (Int × Int)} (h : NetAt σ x d r rs n H) (e : Ext σ σ') : NetAt σ' x d r rs n H :=
  ⟨e _ _ h.top, e _ _ h.dic, h.rows.ext e, h.lo, h.hi, h.nod, h.ok⟩
theorem NetAt.upd {σ : Store} {x d r : Addr} {rs : List Addr} {n : Int} {H : List (Int × Int)} (h : NetAt σ x d r rs n H) {a : Addr} (ha : σ a = none) {o : AO} : NetAt (σ.upd a o) x d r rs n H :=
  h.ext (Ext.rfl.upd ha)
theorem NetAt.rowAt {σ : Store} {x d r : Addr} {rs : List Addr} {n : Int} {H : List (Int × Int)} (h : NetAt σ x d r rs n H) {i : Nat} (hi : (i : Int) < n) :
    ∃ a, rs[i]? = some a ∧ σ a = some (.list ((zbt (nb H i)).map V.int)) := by
  have : i < rs.length := by rw [h.rows.len]; lia
  exact ⟨_, List.getElem?_eq_getElem this, h.rows.row i _ (List.getElem?_eq_getElem this)⟩
theorem NetAt.rowLen {σ : Store} {x d r : Addr} {rs : List Addr} {n : Int} {H : List (Int × Int)} (h : NetAt σ x d r rs n H) (i : Int) : (zbt (nb H i)).length ≤ 40 := by
  rw [(zbV _).length_eq]
  exact zjT h.nod h.ok (by have := h.lo; lia) h.hi
section
variable {k : Nat} {md : Bool} {σ : Store} {Q : V → Store → Prop} {X : XP}
theorem zjz {x d r : Addr} {rs : List Addr} {n : Int} {H : List (Int × Int)} (h : NetAt σ x d r rs n H)
    (hQ : ∀ b, σ b = none → Q (.ref b) (σ.upd b (.list ((zca H n.toNat).map pr)))) : (sem zba zbf (k + 1) true).run "Net" "ties" [.ref x] σ Q X := by
  refine zbe (F := zem) rfl ⟨rfl, ?_⟩
  simp only [zem, zay, zak, zaF, zaj, zad, zac, zaW, zap, zaX, zaE, zaY, zaG, E_tt, E_ff, za2, za0, zaZ, zaL, za4, za1, zaU, zaV, zaC, zaD, zaM, zaI, zaH, E_m1, zaN, za3, zan, zaJ, zam, zao, E_b1, zaK, za5, zaP, zas, zar, zaq, zaB, zal, zaT, zav, I_r1, I_r2, I_r3, zaS, zau, zat, zaO, zag, zai, zah, zax, zaw, zaA, zaz, List.map_cons, List.map_nil, List.length_cons, List.length_nil, List.cons_append, List.nil_append, List.replicate, Nat.reduceAdd, Nat.reduceSub, Loc.get, zgz, zgs, zjs, zaa, tgOk, onT, zaf, true_and, zae, zss, zsz, zab]
  refine ⟨by simp [zbb], ?_⟩
  intro b hb
  have hxb : x ≠ b := zbF h.top hb
  have hdb : d ≠ b := zbF h.dic hb
  have hlo := h.lo
  have hhi := h.hi
  refine zbE (h.upd hb).top (h.upd hb).dic fldS rfl ?_
  refine ⟨by lia, ?_⟩
  refine zbp (fun i ρ σ' => (zca H i).length ≤ 40 * i ∧ σ' = σ.upd b (.list ((zca H i).map pr)) ∧ ∃ t2 t3, ρ = [some (.ref x), some (.ref b), t2, t3])
    ⟨by simp [zca], by simp [zca], _, _, rfl⟩ (fun _ _ _ _ => trivial) ?_ ?_
  · intro i v ρ σ' K hv zz30
    refine ob56 zz30 ?_
    clear zz30
    intro hl ee134
    subst ee134
    intro t2 t3 ee135
    subst ee135
    intro hK
    refine ob14 (zbH hv) ?_
    intro ee136
    subst ee136
    intro hxn
    rw [Int.zero_add] at hxn ⊢
    simp only [zez, zay, zak, zaF, zaj, zad, zac, zaW, zap, zaX, zaE, zaY, zaG, E_tt, E_ff, za2, za0, zaZ, zaL, za4, za1, zaU, zaV, zaC, zaD, zaM, zaI, zaH, E_m1, zaN, za3, zan, zaJ, zam, zao, E_b1, zaK, za5, zaP, zas, zar, zaq, zaB, zal, zaT, zav, I_r1, I_r2, I_r3, zaS, zau, zat, zaO, zag, zai, zah, zax, zaw, zaA, zaz, Loc.get, zgz, zgs, zjs, zaa, tgOk, onT, zaf, true_and, zae, zss, zsz, zab]
    have hN := h.upd hb (o := .list ((zca H i).map pr))
    refine zbE hN.top hN.dic fldN rfl ?_
    refine ob7 (h.rowAt hxn) ?_
    intro a ha ha'
    have hab : a ≠ b := zbF ha' hb
    have hlen := h.rowLen i
    refine zbZ hN.rows.top (by lia) (by rw [List.getElem?_map]; simp [ha]; rfl) ?_
    simp only [zcY]
    refine zbc ((za7 hab).trans ha') ?_
    refine zbp (fun j ρ σ' => σ' = σ.upd b (.list ((zca H i ++ (((zbt (nb H i)).take j).filter (fun x => decide ((i : Int) < x))).map (fun x => ((i : Int), x))).map pr)) ∧ ∃ t3, ρ = [some (.ref x), some (.ref b), some (.int i), t3])
      ⟨by simp, _, rfl⟩ ?_ ?_ ?_
    · intro j ρ σ' zz31
      refine ob14 zz31 ?_
      clear zz31
      intro ee137
      subst ee137
      intro _
      rw [za7 hab]; exact ha'
    · intro j v ρ σ' K2 hv zz32
      refine ob57 zz32 ?_
      clear zz32
      intro ee138
      subst ee138
      intro t3 ee139
      subst ee139
      intro hK2
      rw [List.getElem?_map] at hv
      refine ob7 (Option.map_eq_some_iff.mp hv) ?_
      intro y hy ee140
      subst ee140
      have hj : j < (zbt (nb H i)).length := by
        rcases Nat.lt_or_ge j (zbt (nb H i)).length with g | g
        · exact g
        · rw [List.getElem?_eq_none g] at hy; cases hy
      rw [List.getElem?_eq_getElem hj] at hy
      cases hy
      have htake := List.take_succ_eq_append_getElem hj
      simp only [zeA, zay, zak, zaF, zaj, zad, zac, zaW, zap, zaX, zaE, zaY, zaG, E_tt, E_ff, za2, za0, zaZ, zaL, za4, za1, zaU, zaV, zaC, zaD, zaM, zaI, zaH, E_m1, zaN, za3, zan, zaJ, zam, zao, E_b1, zaK, za5, zaP, zas, zar, zaq, zaB, zal, zaT, zav, I_r1, I_r2, I_r3, zaS, zau, zat, zaO, zag, zai, zah, zax, zaw, zaA, zaz, Loc.get, zgz, zgs, zjs, zaa, tgOk, onT, zaf, true_and, zae, zss, zsz, zab, zku, zbB, decide_eq_true_eq]
      by_cases hlt : (i : Int) < (zbt (nb H i))[j]
      · rw [if_pos hlt]
        refine zbc zaR ⟨by simp [zbb], zbA zaR ?_ (hK2 _ _ ⟨?_, _, rfl⟩)⟩
        · have : (((zbt (nb H i)).take j).filter (fun x => decide ((i : Int) < x))).length ≤ 40 := by
            refine Nat.le_trans (List.length_filter_le _ _) ?_
            rw [List.length_take]; lia
          simp only [List.length_append, List.length_map]
          unfold zbb
          lia
        · rw [zb8, htake]
          simp only [List.filter_append, List.filter_cons, hlt, decide_true, if_true, List.filter_nil, List.map_append, List.map_cons, List.map_nil, List.append_assoc, List.map_map]
          rfl
      · rw [if_neg hlt]
        refine hK2 _ _ ⟨?_, _, rfl⟩
        rw [htake]
        simp only [List.filter_append, List.filter_cons, hlt, decide_false, Bool.false_eq_true, if_false, List.filter_nil, List.append_nil, List.map_append, List.map_map]
    · intro ρ σ' zz33
      refine ob57 zz33 ?_
      clear zz33
      intro ee141
      subst ee141
      intro t3 ee142
      subst ee142
      have e : (((zbt (nb H i)).take ((zbt (nb H i)).map V.int).length).filter (fun x => decide ((i : Int) < x))).map (fun x => ((i : Int), x)) = zcV H i := by
        rw [List.length_map, List.take_length]; rfl
      rw [e, ← zeL]
      refine hK _ _ ⟨?_, rfl, _, _, rfl⟩
      rw [zeL, List.length_append]
      have : (zcV H i).length ≤ 40 := by
        unfold zcV
        rw [List.length_map]
        exact Nat.le_trans (List.length_filter_le _ _) hlen
      lia
  · intro ρ σ' zz34
    refine ob56 zz34 ?_
    clear zz34
    intro hl ee143
    subst ee143
    intro t2 t3 ee144
    subst ee144
    simp only [zex, zay, zak, zaF, zaj, zad, zac, zaW, zap, zaX, zaE, zaY, zaG, E_tt, E_ff, za2, za0, zaZ, zaL, za4, za1, zaU, zaV, zaC, zaD, zaM, zaI, zaH, E_m1, zaN, za3, zan, zaJ, zam, zao, E_b1, zaK, za5, zaP, zas, zar, zaq, zaB, zal, zaT, zav, I_r1, I_r2, I_r3, zaS, zau, zat, zaO, zag, zai, zah, zax, zaw, zaA, zaz, Loc.get, zgz, zgs, zjs, zaa, tgOk, onT, zaf, true_and, zae, zss, zsz, zab, List.length_map, zcU]
    exact hQ b hb
theorem zd2 {x d r : Addr} {rs : List Addr} {n : Int} {H : List (Int × Int)} {i : Nat} (h : NetAt σ x d r rs n H) (hi : (i : Int) < n)
    (hQ : ∀ b, σ b = none → Q (.ref b) (σ.upd b (.list ((zbt (nb H i)).map V.int)))) : (sem zba zbf (k + 2) true).run "Net" "beside" [.ref x, .int i] σ Q X := by
  refine zbe (F := zdG) rfl ⟨rfl, ?_⟩
  simp only [zdG, zay, zak, zaF, zaj, zad, zac, zaW, zap, zaX, zaE, zaY, zaG, E_tt, E_ff, za2, za0, zaZ, zaL, za4, za1, zaU, zaV, zaC, zaD, zaM, zaI, zaH, E_m1, zaN, za3, zan, zaJ, zam, zao, E_b1, zaK, za5, zaP, zas, zar, zaq, zaB, zal, zaT, zav, I_r1, I_r2, I_r3, zaS, zau, zat, zaO, zag, zai, zah, zax, zaw, zaA, zaz, List.map_cons, List.map_nil, List.length_cons, List.length_nil, List.cons_append, List.nil_append, List.replicate, Nat.reduceAdd, Nat.reduceSub, Loc.get, zgz, zgs, zjs, zaa, tgOk, onT, zaf, true_and, zae, zss, zsz, zab, zbz, zdU]
  refine zbE h.top h.dic fldS rfl (zbL (Int.natCast_nonneg i) hi (go_b (zbv ?_)))
  simp only [zdT, zay, zak, zaF, zaj, zad, zac, zaW, zap, zaX, zaE, zaY, zaG, E_tt, E_ff, za2, za0, zaZ, zaL, za4, za1, zaU, zaV, zaC, zaD, zaM, zaI, zaH, E_m1, zaN, za3, zan, zaJ, zam, zao, E_b1, zaK, za5, zaP, zas, zar, zaq, zaB, zal, zaT, zav, I_r1, I_r2, I_r3, zaS, zau, zat, zaO, zag, zai, zah, zax, zaw, zaA, zaz, Loc.get, zgz, zgs, zjs, zaa, tgOk, onT, zaf, true_and, zae, zss, zsz, zab]
  refine zbE h.top h.dic fldN rfl ?_
  refine ob7 (h.rowAt hi) ?_
  intro a ha ha'
  have hlen := h.rowLen i
  refine zbZ h.rows.top (Int.natCast_nonneg i) (by rw [List.getElem?_map, Int.toNat_natCast, ha]; rfl) ?_
  simp only [zfb, zgv]
  refine zbc ha' ⟨?_, hQ⟩
  rw [List.length_map]; unfold zbb; lia
end
end Mine
end
section
set_option linter.unusedVariables false
set_option linter.unusedSimpArgs false
namespace Mine
open PySem
theorem zhb {chk : Store → Prop} {B : V → Store → (Option V → Store → Prop) → Prop} {Q : V → Store → Prop} {items : List V} {σ : Store} (f : V → Option V)
    (hc : chk σ) (hl : items.length ≤ zbb) (hB : ∀ v ∈ items, ∀ K : Option V → Store → Prop, K (f v) σ → B v σ K)
    (h : ∀ a, σ a = none → Q (.ref a) (σ.upd a (.list (items.filterMap f)))) : zcw chk B Q items [] σ := by
  refine ze6 (fun i acc σ' => i ≤ items.length ∧ σ' = σ ∧ acc = (items.take i).filterMap f) ⟨by lia, rfl, by simp⟩ ?_ hl ?_ ?_
  · intro i acc σ' zz35
    refine ob16 zz35 ?_
    clear zz35
    intro hi ee145
    subst ee145
    intro ee146
    subst ee146
    refine ⟨hc, Nat.le_trans (List.length_filterMap_le ..) ?_⟩
    rw [List.length_take]; lia
  · intro i v acc σ' K hv zz36
    refine ob16 zz36 ?_
    clear zz36
    intro hi ee147
    subst ee147
    intro ee148
    subst ee148
    intro hK
    have hil : i < items.length := by
      rcases Nat.lt_or_ge i items.length with g | g
      · exact g
      · rw [List.getElem?_eq_none g] at hv; cases hv
    rw [List.getElem?_eq_getElem hil] at hv
    cases hv
    refine hB _ (List.getElem_mem hil) K (hK _ _ ⟨hil, rfl, ?_⟩)
    rw [List.take_succ_eq_append_getElem hil, List.filterMap_append]
    cases e : f items[i] <;> simp [e]
  · intro acc σ' zz37
    refine ob16 zz37 ?_
    clear zz37
    intro hi ee149
    subst ee149
    intro ee150
    subst ee150
    intro a ha
    rw [List.take_length]
    exact h a ha
theorem zhW {f : V → V → Option Bool} {vs : List V} (h : ∀ v ∈ vs, f v v = some true) : zb0 f vs vs = some true := by
  induction vs with
  | nil => rfl
  | cons v vs ih =>
    show (match f v v, zb0 f vs vs with | some a, some b => some (a && b) | _, _ => none) = _
    rw [h v (List.mem_cons_self ..), ih (fun u hu => h u (List.mem_cons_of_mem _ hu))]; rfl
theorem zmX {σ : Store} {m : Nat} {i : Int} : eqv σ m (.int i) (.int i) = some true := by
  cases m <;> exact congrArg some (beq_self_eq_true i)
theorem zgl {σ : Store} {m : Nat} {a b : Addr} {us vs : List V} (ha : σ a = some (.list us)) (hb : σ b = some (.list vs)) : eqv σ (m + 1) (.ref a) (.ref b) = if us.length = vs.length then zb0 (eqv σ m) us vs else some false := by
  show ((asL (σ a)).bind fun us => (asL (σ b)).bind fun vs => if us.length = vs.length then zb0 (eqv σ m) us vs else some false) = _
  rw [ha, hb]; rfl
theorem zlv {σ : Store} {m : Nat} {a b : Addr} {vs : List V} (ha : σ a = some (.list vs)) (hb : σ b = some (.list vs)) (h : ∀ v ∈ vs, eqv σ m v v = some true) : eqv σ (m + 1) (.ref a) (.ref b) = some true := by
  rw [zgl ha hb, if_pos rfl]
  exact zhW h
theorem zlw {σ : Store} {a b : Addr} {l : List Int} (ha : σ a = some (.list (l.map V.int))) (hb : σ b = some (.list (l.map V.int))) : eqv σ fuel (.ref a) (.ref b) = some true :=
  zlv ha hb fun v hv => by obtain ⟨i, _, rfl⟩ := List.mem_map.mp hv; exact zmX
theorem zmW {σ : Store} {a b : Addr} {vs : List V} (ha : σ a = some (.list vs)) (hb : σ b = some (.list [])) : eqv σ fuel (.ref a) (.ref b) = some vs.isEmpty := by
  show eqv σ (5 + 1) _ _ = _
  rw [zgl ha hb]
  cases vs with
  | nil => rfl
  | cons v vs => rw [if_neg (by simp)]; rfl
theorem zk3 {σ : Store} {Q : V → Store → Prop} {a : Addr} {vs : List V} {i : Int} (ha : σ a = some (.list vs)) (h0 : 0 ≤ i) (h1 : i ≤ vs.length) (h : ∀ b, σ b = none → Q (.ref b) (σ.upd b (.list (vs.drop i.toNat)))) : zgS (.ref a) (.int i) .none σ Q := by
  have e : zeQ (some i) none vs = vs.drop i.toNat := by
    have : ¬ i < 0 := by lia
    have h2 : min i.toNat vs.length = i.toNat := by lia
    simp [zeQ, zc1, this, h2]
  simp only [zgS]
  refine zbc ha ?_
  simp only [zmm, zla, zaa, alloc]
  rw [e]; exact h
section
variable {k : Nat} {md : Bool} {σ : Store} {Q : V → Store → Prop} {X : XP}
theorem zjE : (zba "Net" "__init__").isSome = true := rfl
theorem tb_beside : (zba "Net" "beside").isSome = true := rfl
theorem tb_ties : (zba "Net" "ties").isSome = true := rfl
theorem zis {σ σ' : Store} {x d : Addr} {o p : AO} (hx : σ x = none) (hd : σ d = none) (h : Frm d ((σ.upd d o).upd x p) σ') : Ext σ σ' := by
  intro a q e
  have h1 : a ≠ d := zbF e hd
  have h2 : a ≠ x := zbF e hx
  exact h a q h1 ((za7 h2).trans ((za7 h1).trans e))
end
end Mine
end
end
section
set_option linter.unusedVariables false
set_option linter.unusedSimpArgs false
namespace Mine
open PySem
noncomputable def zbj (n : Nat) (M : Int → Int) : List V := (List.range n).map fun i : Nat => V.int (M (i : Int))
theorem zcE {n : Nat} {M : Int → Int} : (zbj n M).length = n := by simp [zbj]
theorem zcF {n : Nat} {M : Int → Int} {i : Int} (h0 : 0 ≤ i) (h : i < n) : (zbj n M)[i.toNat]? = some (.int (M i)) := by
  have h1 : i.toNat < n := by lia
  have h2 : (i.toNat : Int) = i := by lia
  simp [zbj, h1, h2]
theorem zdh {n : Nat} {M : Int → Int} {j v : Int} (h0 : 0 ≤ j) : (zbj n M).set j.toNat (.int v) = zbj n (fun i => if i = j then v else M i) := by
  apply List.ext_getElem
  · simp [zbj]
  · intro i h1 h2
    simp only [zbj, List.length_set, List.length_map, List.length_range] at h1
    simp only [List.getElem_set, zbj, List.getElem_map, List.getElem_range]
    by_cases e : j.toNat = i
    · have : (i : Int) = j := by lia
      simp [e, this]
    · have : (i : Int) ≠ j := by lia
      simp [e, this]
noncomputable def mt : List (Int × Int) → Int → Int
  | [] => fun _ => -1
  | p :: r => fun i => if i = p.2 then p.1 else if i = p.1 then p.2 else mt r i
abbrev Touch (p q : Int × Int) : Prop := p.1 = q.1 ∨ p.1 = q.2 ∨ p.2 = q.1 ∨ p.2 = q.2
theorem Touch.symm {p q : Int × Int} (h : Touch p q) : Touch q p := by unfold Touch at h ⊢; lia
noncomputable def Disj (P : List (Int × Int)) : Prop := P.Pairwise fun p q => ¬ Touch p q
theorem Disj.rev {P : List (Int × Int)} (h : Disj P) : Disj P.reverse := by
  unfold Disj
  rw [List.pairwise_reverse]
  exact h.imp fun g e => g e.symm
theorem zld {n : Int} : ∀ {R : List (Int × Int)}, (∀ p ∈ R, zbi n p) → Disj R → ∀ p ∈ R, mt R p.1 = p.2 ∧ mt R p.2 = p.1
  | [], _, _, p, hp => by cases hp
  | q :: r, ht, hd, p, hp => by
    have hd' := List.pairwise_cons.mp hd
    rcases List.mem_cons.mp hp with rfl | hp
    · have := ht p (List.mem_cons_self ..)
      unfold zbi at this
      have h1 : ¬ p.1 = p.2 := by lia
      simp [mt, h1]
    · have h1 := hd'.1 p hp
      unfold Touch at h1
      have h2 : ¬ p.1 = q.2 := by lia
      have h3 : ¬ p.1 = q.1 := by lia
      have h4 : ¬ p.2 = q.2 := by lia
      have h5 : ¬ p.2 = q.1 := by lia
      have ih := zld (fun p hp => ht p (List.mem_cons_of_mem _ hp)) hd'.2 p hp
      simp [mt, h2, h3, h4, h5, ih]
theorem zik : ∀ {R : List (Int × Int)} {i : Int}, (∀ p ∈ R, p.1 ≠ i ∧ p.2 ≠ i) → mt R i = -1
  | [], _, _ => rfl
  | q :: r, i, h => by
    have h1 := h q (List.mem_cons_self ..)
    have h2 : ¬ i = q.2 := fun e => h1.2 e.symm
    have h3 : ¬ i = q.1 := fun e => h1.1 e.symm
    simp only [mt, h2, h3, if_false]
    exact zik fun p hp => h p (List.mem_cons_of_mem _ hp)
theorem zgf {n : Int} {R : List (Int × Int)} (ht : ∀ p ∈ R, zbi n p) (hd : Disj R) (i : Int) : (∃ p ∈ R, (p.1 = i ∧ mt R i = p.2) ∨ (p.2 = i ∧ mt R i = p.1)) ∨ ((∀ p ∈ R, p.1 ≠ i ∧ p.2 ≠ i) ∧ mt R i = -1) := by
  by_cases h : ∃ p ∈ R, p.1 = i ∨ p.2 = i
  · refine ob7 h ?_
    clear h
    intro p hp h
    have h1 := zld ht hd p hp
    rcases h with rfl | rfl
    · exact .inl ⟨p, hp, .inl ⟨rfl, h1.1⟩⟩
    · exact .inl ⟨p, hp, .inr ⟨rfl, h1.2⟩⟩
  · have h' : ∀ p ∈ R, p.1 ≠ i ∧ p.2 ≠ i := fun p hp => ⟨fun e => h ⟨p, hp, .inl e⟩, fun e => h ⟨p, hp, .inr e⟩⟩
    exact .inr ⟨h', zik h'⟩
theorem zfH {D : List Int} : zcD (D.map V.int) = true := by
  have : (D.map V.int).all zg5 = true := List.all_eq_true.mpr fun x hx => by
    refine ob7 (List.mem_map.mp hx) ?_
    intro p _ ee151
    subst ee151
    rfl
  show (_ || _) = true
  rw [this, Bool.true_or]
theorem zfJ {D : List Int} {p : Int} : zck (.int p) (D.map V.int) = decide (p ∈ D) := by
  induction D with
  | nil => rfl
  | cons q D ih =>
    have : zck (.int p) ((q :: D).map V.int) = (zhN (.int q) (.int p) || zck (.int p) (D.map V.int)) := rfl
    rw [this, ih, zg4]
    by_cases e : q = p
    · subst e; simp
    · have : ¬ p = q := fun h => e h.symm
      simp [e, this]
theorem zi6 {D : List Int} {p : Int} : zci (.int p) (D.map V.int) = (if p ∈ D then D else D ++ [p]).map V.int := by
  unfold zci
  rw [zfJ]
  by_cases e : p ∈ D <;> simp [e]
theorem zjZ {σ : Store} {x : Int} {l : List Int} : memV σ (.int x) (l.map V.int) = some (decide (x ∈ l)) := by
  induction l with
  | nil => rfl
  | cons y l ih =>
    have : memV σ (.int x) ((y :: l).map V.int) = (match eqv σ fuel (.int y) (.int x), memV σ (.int x) (l.map V.int) with | some a, some b => some (a || b) | _, _ => none) := rfl
    rw [this, ih]
    have h : eqv σ fuel (.int y) (.int x) = some (y == x) := rfl
    rw [h]
    by_cases e : y = x
    · subst e; simp
    · have : ¬ x = y := fun h => e h.symm
      simp [e, this]
theorem zhS {σ : Store} {a : Addr} {D : List Int} {x : Int} (h : σ a = some (.dict (D.map V.int))) : inV σ (.int x) (.ref a) = some (decide (x ∈ D)) := by
  have hk : zcD (V.int x :: D.map V.int) = true := zfH (D := x :: D)
  simp only [inV, h, hk, if_true, zfJ]
theorem zkc {σ : Store} {a : Addr} {l : List Int} {x : Int} (h : σ a = some (.list (l.map V.int))) : inV σ (.int x) (.ref a) = some (decide (x ∈ l)) := by
  simp only [inV, h, zjZ]
theorem zdd {σ : Store} {Q : Store → Prop} {a : Addr} {D : List Int} {p : Int} (h : σ a = some (.dict (D.map V.int))) (hl : D.length < zbb) (q : Q (σ.upd a (.dict ((if p ∈ D then D else D ++ [p]).map V.int)))) : zbJ (.ref a) (.int p) (.bool true) σ Q := by
  have hk : zcD (V.int p :: D.map V.int) = true := zfH (D := p :: D)
  simp only [zbJ, h]
  refine ⟨⟨hk, by rw [List.length_map]; exact hl, trivial⟩, ?_⟩
  rw [zi6]; exact q
section
variable {k : Nat} {σ : Store} {Q : V → Store → Prop} {X : XP}
theorem zif : (zba "" "mates").isSome = true := rfl
theorem zl6 : (zba "" "told").isSome = true := rfl
theorem zmp {T : List (Int × Int)} {n : Int} {p : Int × Int} (ht : ∀ p ∈ T, zbi n p) (hp : zbi n p) : p.2 ∈ zbt (nb T p.1) ↔ p ∈ T := by
  rw [(zbV _).mem_iff, mem_nb]
  constructor
  · rintro (h | h)
    · exact h
    · have := ht _ h; unfold zbi at this hp; simp only at this; lia
  · exact Or.inl
theorem zja {x d r l f : Addr} {rs : List Addr} {n : Int} {T : List (Int × Int)} {p : Int × Int} {t4 : Option V} {R Y} {N : Loc → Store → Prop} {M : Int → Int}
    (h : NetAt σ x d r rs n T) (hf : σ f = some (.list (zbj n.toNat M))) (hp : zbi n p) (hpT : p ∈ T) (g1 : ¬ 0 ≤ M p.1) (g2 : ¬ 0 ≤ M p.2)
    (hgo : N [some (.ref x), some (.ref l), some (.ref f), some (pr p), t4] (σ.upd f (.list (zbj n.toNat fun i => if i = p.2 then p.1 else if i = p.1 then p.2 else M i)))) :
    wpSs (sem zba zbf (k + 2)) true zfp [some (.ref x), some (.ref l), some (.ref f), some (pr p), t4] σ N R Y := by
  have hp' := hp
  unfold zbi at hp'
  have h0 := hp'.1
  have h1 : p.1 < n.toNat := by lia
  have h2 : 0 ≤ p.2 := by lia
  have h3 : p.2 < n.toNat := by lia
  simp only [zfp, zay, zak, zaF, zaj, zad, zac, zaW, zap, zaX, zaE, zaY, zaG, E_tt, E_ff, za2, za0, zaZ, zaL, za4, za1, zaU, zaV, zaC, zaD, zaM, zaI, zaH, E_m1, zaN, za3, zan, zaJ, zam, zao, E_b1, zaK, za5, zaP, zas, zar, zaq, zaB, zal, zaT, zav, I_r1, I_r2, I_r3, zaS, zau, zat, zaO, zag, zai, zah, zax, zaw, zaA, zaz, Loc.get, zgz, zgs, zjs, zaa, tgOk, onT, zaf, true_and, zae, zss, zsz, zab, zbz, zgI]
  refine zbE h.top h.dic fldS rfl (ze0 hp (go_b (zef ?_)))
  refine zdi (zbE h.top h.dic fldN rfl (zdj ?_))
  refine ob7 (h.rowAt (i := p.1.toNat) (by lia)) ?_
  intro a ha ha'
  rw [Int.toNat_of_nonneg h0] at ha'
  refine zbZ h.rows.top h0 (by rw [List.getElem?_map, ha]; rfl) ?_
  refine zaQ (a := false) (by rw [zb7, zkc ha', decide_eq_true ((zmp h.ok hp).mpr hpT)]; rfl) (zbv ?_)
  simp only [zho, zay, zak, zaF, zaj, zad, zac, zaW, zap, zaX, zaE, zaY, zaG, E_tt, E_ff, za2, za0, zaZ, zaL, za4, za1, zaU, zaV, zaC, zaD, zaM, zaI, zaH, E_m1, zaN, za3, zan, zaJ, zam, zao, E_b1, zaK, za5, zaP, zas, zar, zaq, zaB, zal, zaT, zav, I_r1, I_r2, I_r3, zaS, zau, zat, zaO, zag, zai, zah, zax, zaw, zaA, zaz, Loc.get, zgz, zgs, zjs, zaa, tgOk, onT, zaf, true_and, zae, zss, zsz, zab]
  refine zdj (zbZ hf h0 (zcF h0 h1) (zaQ (congrArg some (decide_eq_false g1)) (zef ?_)))
  refine zdi (zbZ hf h2 (zcF h2 h3) (zaQ (congrArg some (decide_eq_false g2)) (zbv ?_)))
  refine zdi (zdj (zb6 hf h0 (by rw [zcE]; exact h1) ?_))
  rw [zdh h0]
  refine zdj (zdi (zb6 zaR h2 (by rw [zcE]; exact h3) ?_))
  rw [zdh h2, zb8]
  exact hgo
theorem zfF {x d r l : Addr} {rs : List Addr} {n : Int} {T P : List (Int × Int)} (h : NetAt σ x d r rs n T) (hl : σ l = some (.list (P.map pr))) (hs : ∀ p ∈ P, p ∈ T) (hd : Disj P)
    (hQ : ∀ f, σ f = none → Q (.ref f) (σ.upd f (.list (zbj n.toNat (mt P.reverse))))) :
    (sem zba zbf (k + 3) true).run "" "mates" [.ref x, .ref l] σ Q X := by
  have hlo := h.lo
  have hhi := h.hi
  refine zbe (F := zh5) rfl ⟨rfl, ?_⟩
  simp only [zh5, zay, zak, zaF, zaj, zad, zac, zaW, zap, zaX, zaE, zaY, zaG, E_tt, E_ff, za2, za0, zaZ, zaL, za4, za1, zaU, zaV, zaC, zaD, zaM, zaI, zaH, E_m1, zaN, za3, zan, zaJ, zam, zao, E_b1, zaK, za5, zaP, zas, zar, zaq, zaB, zal, zaT, zav, I_r1, I_r2, I_r3, zaS, zau, zat, zaO, zag, zai, zah, zax, zaw, zaA, zaz, List.map_cons, List.map_nil, List.length_cons, List.length_nil, List.cons_append, List.nil_append, List.replicate, Nat.reduceAdd, Nat.reduceSub, Loc.get, zgz, zgs, zjs, zaa, tgOk, onT, zaf, true_and, zae, zss, zsz, zab]
  refine zaQ (isl hl) (go_b (zbv ?_))
  refine zbE h.top h.dic fldS rfl ?_
  refine ⟨by lia, ?_⟩
  refine zhb (fun _ => some (.int (-1))) trivial (by rw [List.length_map, zcU]; unfold zbb; lia) (fun v hv K hK => hK) ?_
  intro f hf
  have e0 : ((upto 0 n 1).map V.int).filterMap (fun _ => some (V.int (-1))) = zbj n.toNat (mt []) := by
    apply List.ext_getElem?
    intro i
    simp only [List.filterMap_eq_map', List.getElem?_map, zbj, mt]
    by_cases hi : i < n.toNat
    · have h1 : (0 : Int) + i < n := by lia
      rw [zjv h1]; simp [hi]
    · have h1 : (upto 0 n 1).length ≤ i := by rw [zcU]; lia
      rw [List.getElem?_eq_none h1]; simp [hi]
  rw [e0]
  have hlf : l ≠ f := zbF hl hf
  simp only [zhm, zay, zak, zaF, zaj, zad, zac, zaW, zap, zaX, zaE, zaY, zaG, E_tt, E_ff, za2, za0, zaZ, zaL, za4, za1, zaU, zaV, zaC, zaD, zaM, zaI, zaH, E_m1, zaN, za3, zan, zaJ, zam, zao, E_b1, zaK, za5, zaP, zas, zar, zaq, zaB, zal, zaT, zav, I_r1, I_r2, I_r3, zaS, zau, zat, zaO, zag, zai, zah, zax, zaw, zaA, zaz, Loc.get, zgz, zgs, zjs, zaa, tgOk, onT, zaf, true_and, zae, zss, zsz, zab, zcY]
  refine zbc ((za7 hlf).trans hl) ?_
  refine zbp (fun j ρ σ' => σ' = σ.upd f (.list (zbj n.toNat (mt (P.take j).reverse))) ∧ ∃ t3, ρ = [some (.ref x), some (.ref l), some (.ref f), t3, none])
    ⟨by simp, _, rfl⟩ ?_ ?_ ?_
  · intro j ρ σ' zz38
    refine ob14 zz38 ?_
    clear zz38
    intro ee152
    subst ee152
    intro _
    rw [za7 hlf]; exact hl
  · intro j v ρ σ' K hv zz39
    refine ob57 zz39 ?_
    clear zz39
    intro ee153
    subst ee153
    intro t3 ee154
    subst ee154
    intro hK
    have hN := h.ext ((Ext.rfl (σ := σ)).upd (o := .list (zbj n.toNat (mt (P.take j).reverse))) hf)
    simp only [zae, zaa, zss, zsz]
    refine ob12 (zkm hv) ?_
    intro hjl ee155
    subst ee155
    have htake := List.take_succ_eq_append_getElem hjl
    have hpP := hs _ (List.getElem_mem hjl)
    have hfree : ∀ q ∈ (P.take j).reverse, ¬ Touch q P[j] := by
      intro q hq
      have h1 : Disj (P.take (j + 1)) := hd.sublist (List.take_sublist _ P)
      rw [htake] at h1
      exact (List.pairwise_append.mp h1).2.2 q (List.mem_reverse.mp hq) _ (List.mem_singleton.mpr rfl)
    refine zja hN zaR (h.ok _ hpP) hpP ?_ ?_ (hK _ _ ⟨?_, _, rfl⟩)
    · rw [zik fun q hq => by have := hfree q hq; unfold Touch at this; lia]; decide
    · rw [zik fun q hq => by have := hfree q hq; unfold Touch at this; lia]; decide
    · rw [zb8, htake, List.reverse_append]; rfl
  · intro ρ σ' zz40
    refine ob57 zz40 ?_
    clear zz40
    intro ee156
    subst ee156
    intro t3 ee157
    subst ee157
    rw [List.length_map, List.take_length]
    simp only [zhn, zay, zak, zaF, zaj, zad, zac, zaW, zap, zaX, zaE, zaY, zaG, E_tt, E_ff, za2, za0, zaZ, zaL, za4, za1, zaU, zaV, zaC, zaD, zaM, zaI, zaH, E_m1, zaN, za3, zan, zaJ, zam, zao, E_b1, zaK, za5, zaP, zas, zar, zaq, zaB, zal, zaT, zav, I_r1, I_r2, I_r3, zaS, zau, zat, zaO, zag, zai, zah, zax, zaw, zaA, zaz, Loc.get, zgz, zgs, zjs, zaa, tgOk, onT, zaf, true_and, zae, zss, zsz, zab]
    exact hQ f hf
theorem zeh {chk : Store → Prop} {B : V → Store → (Option V → Store → Prop) → Prop} {n : Int} (g : Int → Option V) (hc : chk σ) (hn : n ≤ 1000) (hB : ∀ i : Int, 0 ≤ i → i < n → ∀ K : Option V → Store → Prop, K (g i) σ → B (.int i) σ K)
    (h : ∀ a, σ a = none → Q (.ref a) (σ.upd a (.list ((List.range n.toNat).filterMap fun i : Nat => g i)))) : zcw chk B Q ((upto 0 n 1).map V.int) [] σ := by
  refine zhb (fun v => match v with | .int i => g i | _ => none) hc (by rw [List.length_map, zcU]; unfold zbb; lia) ?_ ?_
  · intro v hv K hK
    refine ob7 (List.mem_map.mp hv) ?_
    intro i hi ee158
    subst ee158
    refine ob12 (List.mem_iff_getElem?.mp hi) ?_
    intro j hj
    have hi0 := upto_get' hj
    exact hB i (by lia) (by lia) K hK
  · intro a ha
    have e : ((upto 0 n 1).map V.int).filterMap (fun v => match v with | .int i => g i | _ => none) = (List.range n.toNat).filterMap fun i : Nat => g i := by
      have : upto 0 n 1 = (List.range n.toNat).map fun i : Nat => (i : Int) := by
        unfold upto; simp
      rw [this, List.map_map, List.filterMap_map]
      rfl
    rw [e]; exact h a ha
noncomputable def zbI (n : Nat) (M : Int → Int) : List (Int × Int) := (List.range n).filterMap fun i : Nat => if (i : Int) < M i then some ((i : Int), M i) else none
theorem zjy {n : Nat} {M : Int → Int} : (zbI n M).length ≤ n := by
  refine Nat.le_trans (List.length_filterMap_le ..) ?_
  rw [List.length_range]; exact Nat.le_refl _
theorem zjx {m : Addr} {n : Nat} {M : Int → Int} (hm : σ m = some (.list (zbj n M))) (hn : n ≤ 1000) (hQ : ∀ b, σ b = none → Q (.ref b) (σ.upd b (.list ((zbI n M).map pr)))) : (sem zba zbf (k + 1) true).run "" "told" [.ref m] σ Q X := by
  refine zbe (F := zkN) rfl ⟨rfl, ?_⟩
  simp only [zkN, zay, zak, zaF, zaj, zad, zac, zaW, zap, zaX, zaE, zaY, zaG, E_tt, E_ff, za2, za0, zaZ, zaL, za4, za1, zaU, zaV, zaC, zaD, zaM, zaI, zaH, E_m1, zaN, za3, zan, zaJ, zam, zao, E_b1, zaK, za5, zaP, zas, zar, zaq, zaB, zal, zaT, zav, I_r1, I_r2, I_r3, zaS, zau, zat, zaO, zag, zai, zah, zax, zaw, zaA, zaz, List.map_cons, List.map_nil, List.length_cons, List.length_nil, List.cons_append, List.nil_append, List.replicate, Nat.reduceAdd, Nat.reduceSub, Loc.get, zgz, zgs, zjs, zaa, tgOk, onT, zaf, true_and, zae, zss, zsz, zab, zeC hm, zcE]
  refine ⟨by lia, ?_⟩
  refine zeh (fun i => if i < M i then some (pr (i, M i)) else none) trivial (by lia) ?_ ?_
  · intro i h0 h1 K hK
    refine zbZ hm h0 (zcF h0 h1) ?_
    simp only [zkv, zaa, zbB]
    by_cases g : i < M i
    · rw [if_pos g] at hK
      simp only [g, decide_true, if_true]
      exact zbZ hm h0 (zcF h0 h1) ⟨by decide, hK⟩
    · rw [if_neg g] at hK
      simp only [g, decide_false, Bool.false_eq_true, if_false]
      exact hK
  · intro a ha
    have e : ((List.range (n : Int).toNat).filterMap fun i : Nat => if (i : Int) < M i then some (pr ((i : Int), M i)) else none) = (zbI n M).map pr := by
      unfold zbI
      rw [List.map_filterMap, show ((n : Int)).toNat = n by lia]
      congr 1
      funext i
      split <;> rfl
    rw [e]; exact hQ a ha
noncomputable def zbK (P : List (Int × Int)) : List Int := P.map (·.1) ++ P.map (·.2)
theorem mem_places {P : List (Int × Int)} {i : Int} : i ∈ zbK P ↔ ∃ p ∈ P, p.1 = i ∨ p.2 = i := by
  unfold zbK
  simp only [List.mem_append, List.mem_map]
  constructor
  · rintro (⟨p, hp, e⟩ | ⟨p, hp, e⟩)
    · exact ⟨p, hp, .inl e⟩
    · exact ⟨p, hp, .inr e⟩
  · rintro ⟨p, hp, e | e⟩
    · exact .inl ⟨p, hp, e⟩
    · exact .inr ⟨p, hp, e⟩
theorem zil {n : Int} {P : List (Int × Int)} (ht : ∀ p ∈ P, zbi n p) (hd : Disj P) (i : Int) : mt P.reverse i < 0 ↔ i ∉ zbK P := by
  rw [mem_places]
  rcases zgf (fun p hp => ht p (List.mem_reverse.mp hp)) hd.rev i with ⟨p, hp, h⟩ | ⟨h, e⟩
  · have hp := List.mem_reverse.mp hp
    have ho := ht p hp
    unfold zbi at ho
    constructor
    · intro g; lia
    · intro g; exact absurd ⟨p, hp, by lia⟩ g
  · constructor
    · intro _ z
      refine ob7 z ?_
      clear z
      intro p hp g
      have := h p (List.mem_reverse.mpr hp)
      lia
    · intro _; lia
theorem zbC {n : Nat} {M : Int → Int} : (zbI n M).Pairwise zbx := by
  unfold zbI
  refine List.Pairwise.filterMap _ ?_ (List.pairwise_lt_range (n := n))
  intro i j hij p hp q hq
  split at hp
  · cases hp
    split at hq
    · cases hq
      exact .inl (by simp only; lia)
    · cases hq
  · cases hp
theorem zle {n : Int} {P : List (Int × Int)} (ht : ∀ p ∈ P, zbi n p) (hd : Disj P) (q : Int × Int) : q ∈ zbI n.toNat (mt P.reverse) ↔ q ∈ P := by
  have ht' : ∀ p ∈ P.reverse, zbi n p := fun p hp => ht p (List.mem_reverse.mp hp)
  unfold zbI
  simp only [List.mem_filterMap, List.mem_range]
  constructor
  · intro zz41
    refine ob7 zz41 ?_
    clear zz41
    intro i hi h
    split at h
    · cases h
      rename_i g
      rcases zgf ht' hd.rev i with ⟨p, hp, ⟨e1, e2⟩ | ⟨e1, e2⟩⟩ | ⟨_, e⟩
      · rw [e2, ← e1]; exact List.mem_reverse.mp hp
      · have := ht' p hp; unfold zbi at this; lia
      · lia
    · cases h
  · intro hq
    have ho := ht q hq
    unfold zbi at ho
    have h1 := (zld ht' hd.rev q (List.mem_reverse.mpr hq)).1
    have e : ((q.1.toNat : Nat) : Int) = q.1 := by lia
    refine ⟨q.1.toNat, by lia, ?_⟩
    rw [e, h1, if_pos ho.2.1]
theorem zfM {P : List (Int × Int)} (hd : Disj P) : P.Nodup := hd.imp fun {a b} h e => h (by subst e; exact .inl rfl)
theorem zgG {n : Int} {P : List (Int × Int)} (ht : ∀ p ∈ P, zbi n p) (hd : Disj P) : (zbI n.toNat (mt P.reverse)).Perm P := by
  rw [List.perm_ext_iff_of_nodup (zcc zbC) (zfM hd)]
  exact zle ht hd
theorem zl5 {n : Int} {P qs : List (Int × Int)} (ht : ∀ p ∈ P, zbi n p) (hd : Disj P) (hp : qs.Perm P) (hs : qs.Pairwise zbx) : qs = zbI n.toNat (mt P.reverse) :=
  List.Perm.eq_of_pairwise (fun a b _ _ x y => by unfold zbx at x y; lia) hs zbC (hp.trans (zgG ht hd).symm)
theorem zeG {n : Int} {P : List (Int × Int)} (ht : ∀ p ∈ P, zbi n p) (hd : Disj P) (h0 : 0 ≤ n) (hn : n ≤ 40) : P.length ≤ 40 := by
  rw [← (zgG ht hd).length_eq]
  have := zjy (n := n.toNat) (M := mt P.reverse)
  lia
theorem zk1 {md : Bool} {l : Addr} {n : Int} {P : List (Int × Int)} (hl : σ l = some (.list (P.map pr))) (ht : ∀ p ∈ P, zbi n p) (hd : Disj P) (h0 : 0 ≤ n) (hn : n ≤ 40)
    (hQ : ∀ b, σ b = none → Q (.ref b) (σ.upd b (.list ((zbI n.toNat (mt P.reverse)).map pr)))) : b1V md .sorted (.ref l) σ Q := by
  simp only [zfb]
  have := zeG ht hd h0 hn
  refine .inr (zbc hl ⟨P, ⟨rfl, zfM hd, by lia⟩, fun qs hp hs => ?_⟩)
  rw [zl5 ht hd hp hs]
  exact hQ
end
end Mine
end
section
set_option linter.unusedVariables false
set_option linter.unusedSimpArgs false
namespace Mine
open PySem
noncomputable def tie (a b : Int) : Int × Int := (min a b, max a b)
noncomputable def steps : List Int → List (Int × Int)
  | a :: b :: r => (a, b) :: steps r
  | _ => []
theorem zeV : ∀ (W : List Int) (a b : Int), (a, b) ∈ steps W ↔ ∃ j, W[2 * j]? = some a ∧ W[2 * j + 1]? = some b
  | [], a, b => by simp [steps]
  | [x], a, b => by
    simp only [steps, List.not_mem_nil, false_iff]
    intro zz42
    refine ob7 zz42 ?_
    clear zz42
    intro j h1 h2
    rw [List.getElem?_eq_none (by simp)] at h2; cases h2
  | x :: y :: r, a, b => by
    rw [steps, List.mem_cons, zeV r a b]
    constructor
    · rintro (h | ⟨j, h1, h2⟩)
      · cases h; exact ⟨0, rfl, rfl⟩
      · exact ⟨j + 1, by rw [show 2 * (j + 1) = 2 * j + 1 + 1 by lia]; simpa using h1, by rw [show 2 * (j + 1) + 1 = (2 * j + 1) + 1 + 1 by lia]; simpa using h2⟩
    · intro zz43
      refine ob7 zz43 ?_
      clear zz43
      intro j h1 h2
      cases j with
      | zero => left; simp at h1 h2; rw [h1, h2]
      | succ j =>
        right
        refine ⟨j, ?_, ?_⟩
        · rw [show 2 * (j + 1) = 2 * j + 1 + 1 by lia] at h1; simpa using h1
        · rw [show 2 * (j + 1) + 1 = (2 * j + 1) + 1 + 1 by lia] at h2; simpa using h2
theorem zgL : ∀ (W : List Int) (j : Nat) (a b : Int), W[2 * j]? = some a → W[2 * j + 1]? = some b → (steps W)[j]? = some (a, b)
  | [], j, a, b, h1, h2 => by simp at h1
  | [x], j, a, b, h1, h2 => by rw [List.getElem?_eq_none (by simp)] at h2; cases h2
  | x :: y :: r, 0, a, b, h1, h2 => by simp at h1 h2; rw [steps, h1, h2]; rfl
  | x :: y :: r, j + 1, a, b, h1, h2 => by
    rw [steps, zgs]
    refine zgL r j a b ?_ ?_
    · rw [show 2 * (j + 1) = 2 * j + 1 + 1 by lia] at h1; simpa using h1
    · rw [show 2 * (j + 1) + 1 = (2 * j + 1) + 1 + 1 by lia] at h2; simpa using h2
theorem zeN : ∀ (W : List Int), (steps W).length = W.length / 2
  | [] => rfl
  | [x] => by simp [steps]
  | x :: y :: r => by rw [steps, List.length_cons, zeN r]; simp; lia
theorem zih {W : List Int} {p : Int × Int} (h : p ∈ steps W) : p.1 ∈ W ∧ p.2 ∈ W := by
  refine ob7 ((zeV W p.1 p.2).mp h) ?_
  intro j h1 h2
  exact ⟨List.mem_of_getElem? h1, List.mem_of_getElem? h2⟩
theorem zeO : ∀ {W : List Int}, W.length % 2 = 0 → ∀ i ∈ W, ∃ p ∈ steps W, p.1 = i ∨ p.2 = i
  | [], _, i, h => by cases h
  | [x], e, i, h => by simp at e
  | x :: y :: r, e, i, h => by
    rw [steps]
    rcases List.mem_cons.mp h with rfl | h
    · exact ⟨_, List.mem_cons_self .., .inl rfl⟩
    rcases List.mem_cons.mp h with rfl | h
    · exact ⟨_, List.mem_cons_self .., .inr rfl⟩
    obtain ⟨p, hp, g⟩ := zeO (W := r) (by simp at e; lia) i h
    exact ⟨p, List.mem_cons_of_mem _ hp, g⟩
theorem zfA : ∀ {W : List Int}, W.Nodup → Disj (steps W) ∧ ∀ p ∈ steps W, p.1 ≠ p.2
  | [], _ => ⟨.nil, by simp [steps]⟩
  | [x], _ => ⟨.nil, by simp [steps]⟩
  | x :: y :: r, h => by
    have h1 := List.nodup_cons.mp h
    have h2 := List.nodup_cons.mp h1.2
    have ih := zfA h2.2
    rw [steps]
    refine ⟨List.pairwise_cons.mpr ⟨?_, ih.1⟩, ?_⟩
    · intro p hp t
      have hp := zih hp
      unfold Touch at t
      simp only at t
      rcases t with e | e | e | e
      · exact h1.1 (List.mem_cons_of_mem _ (e ▸ hp.1))
      · exact h1.1 (List.mem_cons_of_mem _ (e ▸ hp.2))
      · exact h2.1 (e ▸ hp.1)
      · exact h2.1 (e ▸ hp.2)
    · intro p hp
      rcases List.mem_cons.mp hp with rfl | hp
      · intro e; exact h1.1 (List.mem_cons.mpr (.inl e))
      · exact ih.2 p hp
noncomputable def mtB (M : Int → Int) : List (Int × Int) → Int → Int
  | [] => M
  | p :: r => fun i => if i = p.2 then p.1 else if i = p.1 then p.2 else mtB M r i
theorem zlQ {M : Int → Int} : ∀ {R : List (Int × Int)}, (∀ p ∈ R, p.1 ≠ p.2) → Disj R → ∀ p ∈ R, mtB M R p.1 = p.2 ∧ mtB M R p.2 = p.1
  | [], _, _, p, hp => by cases hp
  | q :: r, ht, hd, p, hp => by
    have hd' := List.pairwise_cons.mp hd
    rcases List.mem_cons.mp hp with rfl | hp
    · have h1 := ht p (List.mem_cons_self ..)
      simp [mtB, h1]
    · have h1 := hd'.1 p hp
      unfold Touch at h1
      have h2 : ¬ p.1 = q.2 := by lia
      have h3 : ¬ p.1 = q.1 := by lia
      have h4 : ¬ p.2 = q.2 := by lia
      have h5 : ¬ p.2 = q.1 := by lia
      have ih := zlQ (M := M) (fun p hp => ht p (List.mem_cons_of_mem _ hp)) hd'.2 p hp
      simp [mtB, h2, h3, h4, h5, ih]
theorem zjV {M : Int → Int} : ∀ {R : List (Int × Int)} {i : Int}, (∀ p ∈ R, p.1 ≠ i ∧ p.2 ≠ i) → mtB M R i = M i
  | [], _, _ => rfl
  | q :: r, i, h => by
    have h1 := h q (List.mem_cons_self ..)
    have h2 : ¬ i = q.2 := fun e => h1.2 e.symm
    have h3 : ¬ i = q.1 := fun e => h1.1 e.symm
    simp only [mtB, h2, h3, if_false]
    exact zjV fun p hp => h p (List.mem_cons_of_mem _ hp)
structure WayOk (n : Int) (T : List (Int × Int)) (M : Int → Int) (W : List Int) : Prop where
  two : 2 ≤ W.length
  even : W.length % 2 = 0
  inn : ∀ p ∈ W, 0 ≤ p ∧ p < n
  nod : W.Nodup
  fst : ∀ a, W[0]? = some a → M a < 0
  lst : ∀ a, W[W.length - 1]? = some a → M a < 0
  stp : ∀ (k : Nat) a b, W[k]? = some a → W[k + 1]? = some b → b ∈ nb T a ∧ (M a = b ↔ k % 2 = 1)
structure Along (n : Int) (T P : List (Int × Int)) (W : List Int) : Prop where
  ok : ∀ p ∈ P, zbi n p
  dis : Disj P
  odd : ∀ p ∈ steps (W.drop 1), tie p.1 p.2 ∈ P
  oth : ∀ p ∈ P, (∃ q ∈ steps (W.drop 1), p = tie q.1 q.2) ∨ (p.1 ∉ W ∧ p.2 ∉ W)
  all : ∀ (k : Nat) a b, W[k]? = some a → W[k + 1]? = some b → tie a b ∈ T
theorem znH {α : Type} {W : List α} {i : Nat} {a : α} (hi : W[i]? = some a) : i < W.length := by
  rcases Nat.lt_or_ge i W.length with g | g
  · exact g
  · rw [List.getElem?_eq_none g] at hi; cases hi
end Mine
end
section
set_option linter.unusedVariables false
set_option linter.unusedSimpArgs false
namespace Mine
open PySem
section
variable {k : Nat} {σ : Store} {Q : V → Store → Prop} {X : XP}
theorem zjD : (zba "" "is_way").isSome = true := rfl
theorem zjC : (zba "" "turned").isSome = true := rfl
theorem zln {a : Addr} {vs : List V} {i : Int} {v : V} {K : V → Prop} (ha : σ a = some (.list vs)) (hi : i < 0) (hl : -i ≤ vs.length) (hv : vs[vs.length - i.natAbs]? = some v) (h : K v) : idxV (.ref a) (.int i) σ K := by
  have e : zi4 i vs.length = some (vs.length - i.natAbs) := by
    refine (if_neg (by lia)).trans ((if_pos (by lia)).trans (congrArg some ?_))
    lia
  exact Eq.mpr (zhI ha) (zaQ e (zaQ hv h))
theorem zcZ {a : Addr} {W : List Int} {i : Int} {v : Int} {K : V → Prop} (ha : σ a = some (.list (W.map V.int))) (hi : 0 ≤ i) (hv : W[i.toNat]? = some v) (h : K (.int v)) : idxV (.ref a) (.int i) σ K :=
  zbZ ha hi (by rw [List.getElem?_map, hv]; rfl) h
theorem zll {x d r m w g : Addr} {rs : List Addr} {n : Int} {T : List (Int × Int)} {M : Int → Int} {W : List Int} {t4 : Option V} {N Y} (h : NetAt σ x d r rs n T) (hm : σ m = some (.list (zbj n.toNat M))) (hw : σ w = some (.list (W.map V.int)))
    (ok : WayOk n T M W) (hlen : W.length ≤ 1000) (hT : Q (.bool true) σ) :
    wpSs (sem zba zbf k) true zei [some (.ref x), some (.ref m), some (.ref w), some (.ref g), t4, none] σ N Q Y := by
  have gm : ∀ {i : Int}, i ∈ W → ∀ {K : V → Prop}, K (.int (M i)) → idxV (.ref m) (.int i) σ K := fun hi K hK => zbZ hm (ok.inn _ hi).1 (zcF (ok.inn _ hi).1 (by have := (ok.inn _ hi).2; lia)) hK
  have h2 := ok.two
  have hfst : W[0]? = some W[0] := List.getElem?_eq_getElem (by lia)
  have hlst : W[W.length - 1]? = some W[W.length - 1] := List.getElem?_eq_getElem (by lia)
  simp only [zei, zay, zak, zaF, zaj, zad, zac, zaW, zap, zaX, zaE, zaY, zaG, E_tt, E_ff, za2, za0, zaZ, zaL, za4, za1, zaU, zaV, zaC, zaD, zaM, zaI, zaH, E_m1, zaN, za3, zan, zaJ, zam, zao, E_b1, zaK, za5, zaP, zas, zar, zaq, zaB, zal, zaT, zav, I_r1, I_r2, I_r3, zaS, zau, zat, zaO, zag, zai, zah, zax, zaw, zaA, zaz, Loc.get, zgz, zgs, zjs, zaa, tgOk, onT, zaf, true_and, zae, zss, zsz, zab]
  refine zcZ hw (Int.le_refl 0) hfst (gm (List.getElem_mem _) (zaQ (congrArg some (decide_eq_false (Int.not_le.mpr (ok.fst _ hfst)))) (zef ?_)))
  refine zln (i := -1) hw (by decide) (by rw [List.length_map]; lia) (by rw [List.length_map, List.getElem?_map]; show Option.map V.int W[W.length - 1]? = _; rw [hlst]; rfl) (gm (List.getElem_mem _) (zaQ (congrArg some (decide_eq_false (Int.not_le.mpr (ok.lst _ hlst)))) (zbv ?_)))
  simp only [zeC hw, List.length_map, ziA, zag]
  refine ⟨by lia, ?_⟩
  refine zbp (fun j ρ σ' => σ' = σ ∧ ∃ t5, ρ = [some (.ref x), some (.ref m), some (.ref w), some (.ref g), t4, t5])
    ⟨rfl, _, rfl⟩ (fun _ _ _ _ => trivial) ?_ ?_
  · intro j v ρ σ' K hv zz44
    refine ob57 zz44 ?_
    clear zz44
    intro ee159
    subst ee159
    intro t5 ee160
    subst ee160
    intro hK
    refine ob14 (zbH hv) ?_
    intro ee161
    subst ee161
    intro hj
    rw [Int.zero_add] at hj ⊢
    have j0 : j < W.length := by lia
    have j1 : j + 1 < W.length := by lia
    have ha : W[j]? = some W[j] := List.getElem?_eq_getElem j0
    have hb : W[j + 1]? = some W[j + 1] := List.getElem?_eq_getElem j1
    have haW := List.getElem_mem j0
    refine ob14 (ok.stp j _ _ ha hb) ?_
    intro c1 c2
    generalize W[j] = a at *
    generalize W[j + 1] = b at *
    simp only [zf1, zay, zak, zaF, zaj, zad, zac, zaW, zap, zaX, zaE, zaY, zaG, E_tt, E_ff, za2, za0, zaZ, zaL, za4, za1, zaU, zaV, zaC, zaD, zaM, zaI, zaH, E_m1, zaN, za3, zan, zaJ, zam, zao, E_b1, zaK, za5, zaP, zas, zar, zaq, zaB, zal, zaT, zav, I_r1, I_r2, I_r3, zaS, zau, zat, zaO, zag, zai, zah, zax, zaw, zaA, zaz, Loc.get, zgz, zgs, zjs, zaa, tgOk, onT, zaf, true_and, zae, zss, zsz, zab, zdN]
    refine zcZ hw (by lia) hb (zbE h.top h.dic fldN rfl (zcZ hw (by lia) ha ?_))
    have haa := ok.inn a haW
    refine ob7 (h.rowAt (i := a.toNat) (by lia)) ?_
    intro c hc hc'
    rw [Int.toNat_of_nonneg haa.1] at hc'
    refine zbZ h.rows.top haa.1 (by rw [List.getElem?_map, hc]; rfl) ?_
    refine zaQ (a := false) (by rw [zb7, zkc hc', decide_eq_true ((zbV _).mem_iff.mpr c1)]; rfl) (zbv ?_)
    refine zcZ hw (by lia) ha (gm haW (zcZ hw (by lia) hb ⟨by decide, zaQ (a := ((j : Int).fmod 2 == 1)) rfl (zaQ (a := false) ?_ (zbv (hK _ _ ⟨rfl, _, rfl⟩)))⟩))
    have e2 : (j : Int).fmod 2 = ((j % 2 : Nat) : Int) := by rw [Int.fmod_eq_emod_of_nonneg _ (by decide)]; lia
    have : ((M a == b) == ((j : Int).fmod 2 == 1)) = true := by
      rw [beq_iff_eq, Bool.eq_iff_iff, beq_iff_eq, beq_iff_eq, e2]
      exact c2.trans (by lia)
    show some (!((M a == b) == ((j : Int).fmod 2 == 1))) = _
    rw [this]; rfl
  · intro ρ σ' zz45
    refine ob57 zz45 ?_
    clear zz45
    intro ee162
    subst ee162
    intro t5 ee163
    subst ee163
    exact hT
theorem zhO {x d r m w : Addr} {rs : List Addr} {n : Int} {T : List (Int × Int)} {M : Int → Int} {W : List Int} (h : NetAt σ x d r rs n T) (hm : σ m = some (.list (zbj n.toNat M))) (hw : σ w = some (.list (W.map V.int)))
    (ok : WayOk n T M W) (hlen : W.length ≤ 1000) (hT : ∀ σ', Ext σ σ' → Q (.bool true) σ') :
    (sem zba zbf (k + 2) true).run "" "is_way" [.ref x, .ref m, .ref w] σ Q X := by
  refine zbe (F := zgB) rfl ⟨rfl, ?_⟩
  have h2 := ok.two
  have he := ok.even
  simp only [zgB, zay, zak, zaF, zaj, zad, zac, zaW, zap, zaX, zaE, zaY, zaG, E_tt, E_ff, za2, za0, zaZ, zaL, za4, za1, zaU, zaV, zaC, zaD, zaM, zaI, zaH, E_m1, zaN, za3, zan, zaJ, zam, zao, E_b1, zaK, za5, zaP, zas, zar, zaq, zaB, zal, zaT, zav, I_r1, I_r2, I_r3, zaS, zau, zat, zaO, zag, zai, zah, zax, zaw, zaA, zaz, List.map_cons, List.map_nil, List.length_cons, List.length_nil, List.cons_append, List.nil_append, List.replicate, Nat.reduceAdd, Nat.reduceSub, Loc.get, zgz, zgs, zjs, zaa, tgOk, onT, zaf, true_and, zae, zss, zsz, zab, zeC hw, List.length_map, zgu]
  refine zaQ (isl hw) (go_b (zef ?_))
  refine zaQ (congrArg some (decide_eq_false (p := (W.length : Int) < 2) (by lia))) (zef ⟨by decide, zaQ (a := false) ?_ (zbv ?_)⟩)
  · refine congrArg some (beq_eq_false_iff_ne.mpr ?_)
    rw [Int.fmod_eq_emod_of_nonneg _ (by decide)]; lia
  intro g hg
  have hwg : w ≠ g := zbF hw hg
  simp only [zcY]
  refine zbc ((za7 hwg).trans hw) ?_
  refine zbp (fun j ρ σ' => σ' = σ.upd g (.dict ((W.take j).map V.int)) ∧ ∃ t4, ρ = [some (.ref x), some (.ref m), some (.ref w), some (.ref g), t4, none])
    ⟨rfl, _, rfl⟩ ?_ ?_ ?_
  · intro j ρ σ' zz46
    refine ob14 zz46 ?_
    clear zz46
    intro ee164
    subst ee164
    intro _
    rw [za7 hwg]; exact hw
  · intro j v ρ σ' K hv zz47
    refine ob57 zz47 ?_
    clear zz47
    intro ee165
    subst ee165
    intro t4 ee166
    subst ee166
    intro hK
    have hN := h.ext ((Ext.rfl (σ := σ)).upd (o := .dict ((W.take j).map V.int)) hg)
    simp only [zf2, zay, zak, zaF, zaj, zad, zac, zaW, zap, zaX, zaE, zaY, zaG, E_tt, E_ff, za2, za0, zaZ, zaL, za4, za1, zaU, zaV, zaC, zaD, zaM, zaI, zaH, E_m1, zaN, za3, zan, zaJ, zam, zao, E_b1, zaK, za5, zaP, zas, zar, zaq, zaB, zal, zaT, zav, I_r1, I_r2, I_r3, zaS, zau, zat, zaO, zag, zai, zah, zax, zaw, zaA, zaz, Loc.get, zgz, zgs, zjs, zaa, tgOk, onT, zaf, true_and, zae, zss, zsz, zab, zbz, zdU]
    refine zbE hN.top hN.dic fldS rfl ?_
    rw [List.getElem?_map] at hv
    refine ob7 (Option.map_eq_some_iff.mp hv) ?_
    intro y hy ee167
    subst ee167
    refine ob12 (List.getElem?_eq_some_iff.mp hy) ?_
    intro hjl ee168
    subst ee168
    have htake := List.take_succ_eq_append_getElem hjl
    have c1 := ok.inn _ (List.getElem_mem hjl)
    have c2 : W[j] ∉ W.take j := fun z => by
      have := ok.nod.sublist (List.take_sublist (j + 1) W)
      rw [htake, List.nodup_append] at this
      exact this.2.2 _ z _ (List.mem_singleton.mpr rfl) rfl
    refine zbL c1.1 c1.2 (go_b (zef (zaQ (a := false) (by rw [zhZ, zhS zaR, decide_eq_false c2]) (zbv ?_))))
    simp only [zfW, zay, zak, zaF, zaj, zad, zac, zaW, zap, zaX, zaE, zaY, zaG, E_tt, E_ff, za2, za0, zaZ, zaL, za4, za1, zaU, zaV, zaC, zaD, zaM, zaI, zaH, E_m1, zaN, za3, zan, zaJ, zam, zao, E_b1, zaK, za5, zaP, zas, zar, zaq, zaB, zal, zaT, zav, I_r1, I_r2, I_r3, zaS, zau, zat, zaO, zag, zai, zah, zax, zaw, zaA, zaz, Loc.get, zgz, zgs, zjs, zaa, tgOk, onT, zaf, true_and, zae, zss, zsz, zab]
    refine zdd zaR (by rw [List.length_take]; unfold zbb; lia) ?_
    rw [if_neg c2, zb8, ← htake]
    exact hK _ _ ⟨rfl, _, rfl⟩
  · intro ρ σ' zz48
    refine ob57 zz48 ?_
    clear zz48
    intro ee169
    subst ee169
    intro t4 ee170
    subst ee170
    rw [List.length_map, List.take_length]
    have hE := (Ext.rfl (σ := σ)).upd (o := .dict (W.map V.int)) hg
    exact zll (h.ext hE) (hE _ _ hm) (hE _ _ hw) ok hlen (hT _ hE)
end
end Mine
end
section
set_option linter.unusedVariables false
set_option linter.unusedSimpArgs false
namespace Mine
open PySem
section
variable {k : Nat} {σ : Store} {Q : V → Store → Prop} {X : XP}
theorem znZ (s : Nat) : upto 0 (2 * (s : Int)) 2 = (List.range s).map fun j : Nat => 2 * (j : Int) := by
  have e : ((2 * (s : Int) - 0 + 2 - 1) / 2).toNat = s := by lia
  unfold upto
  rw [if_pos (by lia), e]
  congr 1
  funext j
  lia
theorem zhz {x d r l w : Addr} {rs : List Addr} {n : Int} {T P : List (Int × Int)} {W : List Int} (h : NetAt σ x d r rs n T) (hl : σ l = some (.list (P.map pr))) (hs : ∀ p ∈ P, p ∈ T) (hd : Disj P) (hw : σ w = some (.list (W.map V.int)))
    (hlen : W.length ≤ 1000) (ok : WayOk n T (mt P.reverse) W)
    (hyes : ∀ σ' b, Ext σ σ' → σ b = none → σ' b = some (.list ((zbI n.toNat (mtB (mt P.reverse) (steps W).reverse)).map pr)) → Q (.ref b) σ') :
    (sem zba zbf (k + 4) true).run "" "turned" [.ref x, .ref l, .ref w] σ Q X := by
  have hlo := h.lo
  have hhi := h.hi
  refine zbe (F := zgA) rfl ⟨rfl, ?_⟩
  simp only [zgA, zay, zak, zaF, zaj, zad, zac, zaW, zap, zaX, zaE, zaY, zaG, E_tt, E_ff, za2, za0, zaZ, zaL, za4, za1, zaU, zaV, zaC, zaD, zaM, zaI, zaH, E_m1, zaN, za3, zan, zaJ, zam, zao, E_b1, zaK, za5, zaP, zas, zar, zaq, zaB, zal, zaT, zav, I_r1, I_r2, I_r3, zaS, zau, zat, zaO, zag, zai, zah, zax, zaw, zaA, zaz, List.map_cons, List.map_nil, List.length_cons, List.length_nil, List.cons_append, List.nil_append, List.replicate, Nat.reduceAdd, Nat.reduceSub, Loc.get, zgz, zgs, zjs, zaa, tgOk, onT, zaf, true_and, zae, zss, zsz, zab, zbz, zif]
  refine zfF h hl hs hd fun f hf => ?_
  have hE := (Ext.rfl (σ := σ)).upd (o := .list (zbj n.toNat (mt P.reverse))) hf
  have hf1 : (σ.upd f (.list (zbj n.toNat (mt P.reverse)))) f = some (.list (zbj n.toNat (mt P.reverse))) := zaR
  generalize σ.upd f (.list (zbj n.toNat (mt P.reverse))) = σ1 at *
  simp only [zfT, zay, zak, zaF, zaj, zad, zac, zaW, zap, zaX, zaE, zaY, zaG, E_tt, E_ff, za2, za0, zaZ, zaL, za4, za1, zaU, zaV, zaC, zaD, zaM, zaI, zaH, E_m1, zaN, za3, zan, zaJ, zam, zao, E_b1, zaK, za5, zaP, zas, zar, zaq, zaB, zal, zaT, zav, I_r1, I_r2, I_r3, zaS, zau, zat, zaO, zag, zai, zah, zax, zaw, zaA, zaz, Loc.get, zgz, zgs, zjs, zaa, tgOk, onT, zaf, true_and, zae, zss, zsz, zab, zbz, zjD]
  refine zhO (h.ext hE) hf1 (hE _ _ hw) ok hlen fun σ2 hE2 => go_b (zbv ?_)
  have hE' := hE.trans hE2
  have hw2 := hE' _ _ hw
  have hwf : w ≠ f := zbF hw hf
  have ev := ok.even
  simp only [zfU, zay, zak, zaF, zaj, zad, zac, zaW, zap, zaX, zaE, zaY, zaG, E_tt, E_ff, za2, za0, zaZ, zaL, za4, za1, zaU, zaV, zaC, zaD, zaM, zaI, zaH, E_m1, zaN, za3, zan, zaJ, zam, zao, E_b1, zaK, za5, zaP, zas, zar, zaq, zaB, zal, zaT, zav, I_r1, I_r2, I_r3, zaS, zau, zat, zaO, zag, zai, zah, zax, zaw, zaA, zaz, Loc.get, zgz, zgs, zjs, zaa, tgOk, onT, zaf, true_and, zae, zss, zsz, zab, zeC hw2, List.length_map]
  refine ⟨by lia, ?_⟩
  have hlw : ((W.length : Nat) : Int) = 2 * ((W.length / 2 : Nat) : Int) := by lia
  rw [hlw, znZ, List.map_map]
  refine zbp (fun j ρ σ' => Ext σ σ' ∧ σ' f = some (.list (zbj n.toNat (mtB (mt P.reverse) ((steps W).take j).reverse))) ∧ ∃ t4, ρ = [some (.ref x), some (.ref l), some (.ref w), some (.ref f), t4])
    ⟨hE', by simp [mtB]; exact hE2 _ _ hf1, _, rfl⟩ (fun _ _ _ _ => trivial) ?_ ?_
  · intro j v ρ σ' K hv zz49
    refine ob58 zz49 ?_
    clear zz49
    intro g1 g2 t4 ee171
    subst ee171
    intro hK
    have hj : j < W.length / 2 := by have := znH hv; simpa using this
    have hv' : v = .int (2 * (j : Int)) := by
      rw [List.getElem?_map, List.getElem?_range hj] at hv; cases hv; rfl
    subst hv'
    have l0 : 2 * j < W.length := by lia
    have l1 : 2 * j + 1 < W.length := by lia
    have ha : W[2 * j]? = some W[2 * j] := List.getElem?_eq_getElem l0
    have hb' : W[2 * j + 1]? = some W[2 * j + 1] := List.getElem?_eq_getElem l1
    have hst := zgL W j _ _ ha hb'
    have i0 := ok.inn _ (List.getElem_mem l0)
    have i1 := ok.inn _ (List.getElem_mem l1)
    generalize W[2 * j] = a at *
    generalize W[2 * j + 1] = b at *
    have e0 : (2 * (j : Int)).toNat = 2 * j := by lia
    have e1 : (2 * (j : Int) + 1).toNat = 2 * j + 1 := by lia
    have hw3 := g1 _ _ hw
    simp only [zf0, zay, zak, zaF, zaj, zad, zac, zaW, zap, zaX, zaE, zaY, zaG, E_tt, E_ff, za2, za0, zaZ, zaL, za4, za1, zaU, zaV, zaC, zaD, zaM, zaI, zaH, E_m1, zaN, za3, zan, zaJ, zam, zao, E_b1, zaK, za5, zaP, zas, zar, zaq, zaB, zal, zaT, zav, I_r1, I_r2, I_r3, zaS, zau, zat, zaO, zag, zai, zah, zax, zaw, zaA, zaz, Loc.get, zgz, zgs, zjs, zaa, tgOk, onT, zaf, true_and, zae, zss, zsz, zab, zdN]
    refine zcZ hw3 (by lia) (by rw [e1]; exact hb') (zcZ hw3 (by lia) (by rw [e0]; exact ha) ?_)
    refine zb6 g2 i0.1 (by rw [zcE]; lia) ?_
    rw [zdh i0.1]
    have hw4 : (σ'.upd f (.list (zbj n.toNat fun i => if i = a then b else mtB (mt P.reverse) ((steps W).take j).reverse i))) w = some (.list (W.map V.int)) := (za7 hwf).trans hw3
    refine zcZ hw4 (by lia) (by rw [e0]; exact ha) (zcZ hw4 (by lia) (by rw [e1]; exact hb') ?_)
    refine zb6 zaR i1.1 (by rw [zcE]; lia) ?_
    rw [zdh i1.1, zb8]
    refine hK _ _ ⟨g1.upd hf, ?_, _, rfl⟩
    have hjs : j < (steps W).length := by rw [zeN]; exact hj
    rw [zaR, List.take_succ_eq_append_getElem hjs, List.reverse_append]
    have : (steps W)[j] = (a, b) := by rw [List.getElem?_eq_getElem hjs] at hst; exact Option.some.inj hst
    rw [this]
    rfl
  · intro ρ σ' zz50
    refine ob58 zz50 ?_
    clear zz50
    intro g1 g2 t4 ee172
    subst ee172
    rw [List.length_map, List.length_range, ← zeN, List.take_length] at g2
    simp only [zfV, zay, zak, zaF, zaj, zad, zac, zaW, zap, zaX, zaE, zaY, zaG, E_tt, E_ff, za2, za0, zaZ, zaL, za4, za1, zaU, zaV, zaC, zaD, zaM, zaI, zaH, E_m1, zaN, za3, zan, zaJ, zam, zao, E_b1, zaK, za5, zaP, zas, zar, zaq, zaB, zal, zaT, zav, I_r1, I_r2, I_r3, zaS, zau, zat, zaO, zag, zai, zah, zax, zaw, zaA, zaz, Loc.get, zgz, zgs, zjs, zaa, tgOk, onT, zaf, true_and, zae, zss, zsz, zab, zbz, zl6]
    refine zjx g2 (by lia) fun b hb' => ?_
    exact hyes _ b (g1.upd (g1.none hb')) (g1.none hb') zaR
end
end Mine
end
section
namespace Mine
section
variable {M bk : Int → Int} {r : Int}
inductive Up (M bk : Int → Int) (r : Int) : Int → List Int → Prop
  | root : Up M bk r r [r]
  | step {v : Int} {L : List Int} : v ≠ r → Up M bk r (bk (M v)) L → Up M bk r v (v :: M v :: L)
inductive Wk (M bk : Int → Int) (r : Int) : Int → List Int → Int → Prop
  | nil {v : Int} : Wk M bk r v [] v
  | cons {v x : Int} {W : List Int} : v ≠ r → Wk M bk r (bk (M v)) W x → Wk M bk r v (v :: M v :: W) x
noncomputable def ev : List Int → List Int
  | [] => []
  | [a] => [a]
  | a :: _ :: l => a :: ev l
noncomputable def od : List Int → List Int
  | [] => []
  | [_] => []
  | _ :: b :: l => b :: od l
theorem Up.uniq {v : Int} {L L' : List Int} (h : Up M bk r v L) : Up M bk r v L' → L = L' := by
  induction h generalizing L' with
  | root => intro g; cases g with
    | root => rfl
    | step n _ => exact absurd rfl n
  | step n _ ih => intro g; cases g with
    | root => exact absurd rfl n
    | step _ g => rw [ih g]
theorem Up.head {v : Int} {L : List Int} (h : Up M bk r v L) : v ∈ ev L := by
  cases h with
  | root => exact List.mem_singleton.mpr rfl
  | step _ _ => exact List.mem_cons_self
theorem Up.end {v : Int} {L : List Int} (h : Up M bk r v L) : r ∈ ev L := by
  induction h with
  | root => exact List.mem_singleton.mpr rfl
  | step _ _ ih => exact List.mem_cons_of_mem _ ih
theorem Wk.up {v x : Int} {W X : List Int} (h : Wk M bk r v W x) : Up M bk r x X → Up M bk r v (W ++ X) := by
  induction h with
  | nil => exact id
  | cons n _ ih => exact fun g => .step n (ih g)
theorem Wk.evA {v x : Int} {W X : List Int} (h : Wk M bk r v W x) : ev (W ++ X) = ev W ++ ev X := by
  induction h with
  | nil => rfl
  | cons _ _ ih => exact congrArg (_ :: ·) ih
theorem Wk.odA {v x : Int} {W X : List Int} (h : Wk M bk r v W x) : od (W ++ X) = od W ++ od X := by
  induction h with
  | nil => rfl
  | cons _ _ ih => exact congrArg (_ :: ·) ih
theorem zcC {a : Int} : ∀ {L : List Int}, a ∈ L → a ∈ ev L ∨ a ∈ od L
  | [], h => absurd h List.not_mem_nil
  | [_], h => .inl h
  | b :: c :: L, h => by
    rcases List.mem_cons.mp h with rfl | h
    · exact .inl List.mem_cons_self
    rcases List.mem_cons.mp h with rfl | h
    · exact .inr List.mem_cons_self
    · exact (zcC h).imp (List.mem_cons_of_mem _) (List.mem_cons_of_mem _)
theorem zbg {a : Int} : ∀ {L : List Int}, a ∈ ev L → a ∈ L
  | [], h => h
  | [_], h => h
  | b :: c :: L, h => by
    rcases List.mem_cons.mp h with rfl | h
    · exact List.mem_cons_self
    · exact List.mem_cons_of_mem _ (List.mem_cons_of_mem _ (zbg h))
theorem zcz {a : Int} : ∀ {L : List Int}, a ∈ od L → a ∈ L
  | [], h => h
  | [_], h => absurd h List.not_mem_nil
  | b :: c :: L, h => by
    rcases List.mem_cons.mp h with rfl | h
    · exact List.mem_cons_of_mem _ List.mem_cons_self
    · exact List.mem_cons_of_mem _ (List.mem_cons_of_mem _ (zcz h))
theorem zmK {a : Int} : ∀ {L : List Int}, L.Nodup → a ∈ ev L → a ∉ od L
  | [], _, h => absurd h List.not_mem_nil
  | [_], _, _ => List.not_mem_nil
  | b :: c :: L, n, h => fun g => by
    have n1 := List.nodup_cons.mp n
    have n2 := List.nodup_cons.mp n1.2
    rcases List.mem_cons.mp h with e | h2
    · rcases List.mem_cons.mp g with e2 | g
      · exact n1.1 (e ▸ e2 ▸ List.mem_cons_self)
      · exact n1.1 (e ▸ List.mem_cons_of_mem _ (zcz g))
    · rcases List.mem_cons.mp g with e2 | g
      · exact n2.1 (e2 ▸ zbg h2)
      · exact zmK n2.2 h2 g
theorem Up.at {v a : Int} {L : List Int} (h : Up M bk r v L) : a ∈ ev L → ∃ W X, L = W ++ X ∧ Wk M bk r v W a ∧ Up M bk r a X := by
  induction h with
  | root => intro g; cases List.mem_singleton.mp g; exact ⟨[], [r], rfl, .nil, .root⟩
  | @step v L n u ih =>
    intro g
    rcases List.mem_cons.mp g with rfl | g
    · exact ⟨[], _, rfl, .nil, .step n u⟩
    · refine ob1 (ih g) ?_
      intro W X e w x
      exact ⟨v :: M v :: W, X, by rw [e]; rfl, .cons n w, x⟩
theorem Up.odd {v y : Int} {L : List Int} (h : Up M bk r v L) : y ∈ od L → ∃ u ∈ ev L, u ≠ r ∧ M u = y := by
  induction h with
  | root => intro g; exact absurd g List.not_mem_nil
  | @step v L n u ih =>
    intro g
    rcases List.mem_cons.mp g with rfl | g
    · exact ⟨v, List.mem_cons_self, n, rfl⟩
    · refine ob7 (ih g) ?_
      intro u m k
      exact ⟨u, List.mem_cons_of_mem _ m, k⟩
theorem Up.next {v u : Int} {L : List Int} (h : Up M bk r v L) (m : u ∈ ev L) (n : u ≠ r) : M u ∈ od L := by
  induction h with
  | root => exact absurd (List.mem_singleton.mp m) n
  | @step v L _ _ ih =>
    rcases List.mem_cons.mp m with rfl | m
    · exact List.mem_cons_self
    · exact List.mem_cons_of_mem _ (ih m)
theorem Wk.next {v u x : Int} {W : List Int} (h : Wk M bk r v W x) (m : u ∈ ev W) : u ≠ r ∧ M u ∈ od W := by
  induction h with
  | nil => exact absurd m List.not_mem_nil
  | @cons v x W n _ ih =>
    rcases List.mem_cons.mp m with rfl | m
    · exact ⟨n, List.mem_cons_self⟩
    · exact ⟨(ih m).1, List.mem_cons_of_mem _ (ih m).2⟩
theorem Wk.odd {v y x : Int} {W : List Int} (h : Wk M bk r v W x) (m : y ∈ od W) : ∃ u ∈ ev W, u ≠ r ∧ M u = y := by
  induction h with
  | nil => exact absurd m List.not_mem_nil
  | @cons v x W n _ ih =>
    rcases List.mem_cons.mp m with rfl | m
    · exact ⟨v, List.mem_cons_self, n, rfl⟩
    · refine ob7 (ih m) ?_
      intro u k l
      exact ⟨u, List.mem_cons_of_mem _ k, l⟩
theorem Up.congr {bk' : Int → Int} {v : Int} {L : List Int} (h : Up M bk r v L) : (∀ y ∈ od L, bk' y = bk y) → Up M bk' r v L := by
  induction h with
  | root => exact fun _ => .root
  | @step v L n _ ih =>
    intro g
    refine .step n ?_
    rw [g _ List.mem_cons_self]
    exact ih fun y hy => g y (List.mem_cons_of_mem _ hy)
theorem Wk.congr {bk' : Int → Int} {v x : Int} {W : List Int} (h : Wk M bk r v W x) : (∀ y ∈ od W, bk' y = bk y) → Wk M bk' r v W x := by
  induction h with
  | nil => exact fun _ => .nil
  | @cons v x W n _ ih =>
    intro g
    refine .cons n ?_
    rw [g _ List.mem_cons_self]
    exact ih fun y hy => g y (List.mem_cons_of_mem _ hy)
end
end Mine
end
section
namespace Mine
section
variable {M bk bs : Int → Int} {O : Int → Bool} {r : Int}
structure Bl (M bk bs : Int → Int) (O : Int → Bool) (r : Int) : Prop where
  rt : O r = true
  mt : ∀ v, O v = true → v ≠ r → M (M v) = v ∧ M v ≠ r
  nx : ∀ v, O v = true → v ≠ r → O (bk (M v)) = true
  up : ∀ v, O v = true → ∃ A B, Wk M bk r v A (bs v) ∧ Up M bk r (bs v) B ∧ (A ++ B).Nodup ∧ (∀ x ∈ A, O x = true ∧ bs x = bs v) ∧ ∀ x ∈ B, x ≠ bs v → bs x ≠ bs v
  bb : ∀ v, O v = true → O (bs v) = true ∧ bs (bs v) = bs v
  ib : ∀ v, O v = false → bs v = v
  tp : ∀ b, O b = true → bs b = b → b ≠ r → O (M b) = false
theorem Bl.evO (h : Bl M bk bs O r) {v : Int} {L : List Int} (u : Up M bk r v L) : O v = true → ∀ x ∈ ev L, O x = true := by
  induction u with
  | root => intro _ x m; rw [List.mem_singleton.mp m]; exact h.rt
  | @step v L n _ ih =>
    intro o x m
    rcases List.mem_cons.mp m with rfl | m
    · exact o
    · exact ih (h.nx v o n) x m
theorem Bl.nd (h : Bl M bk bs O r) {v : Int} {L : List Int} (o : O v = true) (u : Up M bk r v L) : L.Nodup := by
  refine ob15 (h.up v o) ?_
  intro A B w b n _
  rw [u.uniq (w.up b)]; exact n
theorem Bl.same (h : Bl M bk bs O r) {a : Int} (o : O a = true) (n : a ≠ r) (o' : O (M a) = true) : bs (M a) = bs a := by
  have hm := h.mt a o n
  have hb := h.bb _ o'
  refine ob59 (h.up (M a) o') ?_
  intro A B w _ _ hA _
  generalize bs (M a) = c at *
  cases w with
  | nil => exact absurd ((h.tp _ hb.1 hb.2 hm.2).symm.trans (hm.1.symm ▸ o)) Bool.false_ne_true
  | cons _ w => exact ((hA a (List.mem_cons_of_mem _ (List.mem_cons.mpr (.inl hm.1.symm)))).2).symm
end
end Mine
end
section
namespace Mine
section
variable {M bk bs : Int → Int} {O : Int → Bool} {r : Int}
theorem Wk.at {v a x : Int} {W : List Int} (h : Wk M bk r v W x) : a ∈ ev W → ∃ P Q, W = P ++ Q ∧ Wk M bk r v P a ∧ Wk M bk r a Q x := by
  induction h with
  | nil => intro g; exact absurd g List.not_mem_nil
  | @cons v x W n w ih =>
    intro g
    rcases List.mem_cons.mp g with rfl | g
    · exact ⟨[], _, rfl, .nil, .cons n w⟩
    · refine ob1 (ih g) ?_
      intro P Q e p q
      exact ⟨v :: M v :: P, Q, by rw [e]; rfl, .cons n p, q⟩
theorem Wk.cmp {v a b : Int} {P Q : List Int} (h : Wk M bk r v P a) : Wk M bk r v Q b → (∃ R, P = Q ++ R ∧ Wk M bk r b R a) ∨ ∃ R, Q = P ++ R ∧ Wk M bk r a R b := by
  induction h generalizing Q b with
  | nil => exact fun g => .inr ⟨Q, rfl, g⟩
  | @cons v x W n w ih =>
    intro g
    cases g with
    | nil => exact .inl ⟨_, rfl, .cons n w⟩
    | cons n' g =>
      rcases ih g with ⟨R, e, k⟩ | ⟨R, e, k⟩
      · exact .inl ⟨R, by rw [e]; rfl, k⟩
      · exact .inr ⟨R, by rw [e]; rfl, k⟩
theorem Wk.hd {v x : Int} {W : List Int} (h : Wk M bk r v W x) : v = x ∨ v ∈ ev W := by
  cases h with
  | nil => exact .inl rfl
  | cons _ _ => exact .inr List.mem_cons_self
structure Side (M bk bs : Int → Int) (O : Int → Bool) (r v m : Int) (W : List Int) (x : Int) (X : List Int) : Prop where
  o : O v = true
  w : Wk M bk r v W x
  u : Up M bk r x X
  b : bs x = m
  n : ∀ y ∈ W, bs y ≠ m
variable {v m x : Int} {W X : List Int}
theorem Side.all (s : Side M bk bs O r v m W x X) : Up M bk r v (W ++ X) := s.w.up s.u
theorem Side.nd (s : Side M bk bs O r v m W x X) (h : Bl M bk bs O r) : (W ++ X).Nodup := h.nd s.o s.all
theorem Side.evo (s : Side M bk bs O r v m W x X) (h : Bl M bk bs O r) {y : Int} (g : y ∈ ev W) : O y = true := h.evO s.all s.o y (by rw [s.w.evA]; exact List.mem_append_left _ g)
theorem Side.xo (s : Side M bk bs O r v m W x X) (h : Bl M bk bs O r) : O x = true := h.evO s.all s.o x (by rw [s.w.evA]; exact List.mem_append_right _ s.u.head)
theorem Side.base (s : Side M bk bs O r v m W x X) (h : Bl M bk bs O r) {y : Int} (g : y ∈ ev W) : bs y ∈ ev W := by
  have o := s.evo h g
  have ny := s.n y (zbg g)
  refine ob59 (h.up y o) ?_
  intro A B w _ _ hA _
  refine ob1 (s.w.at g) ?_
  intro P Q e p q
  have nx : bs y ≠ x := fun z => ny (by rw [← (h.bb y o).2, z]; exact s.b)
  rcases q.cmp w with ⟨R, e2, k⟩ | ⟨R, e2, k⟩
  · rcases k.hd with z | z
    · exact absurd z nx
    · rw [e, e2, p.evA, w.evA]
      exact List.mem_append_right _ (List.mem_append_right _ z)
  · rcases k.hd with z | z
    · exact absurd z.symm nx
    · exact absurd ((hA x (by rw [e2]; exact List.mem_append_right _ (zbg z))).2.symm.trans s.b) ny
theorem Side.baseO (s : Side M bk bs O r v m W x X) (h : Bl M bk bs O r) {y : Int} (g : y ∈ W) (o : O y = true) : bs y ∈ ev W := by
  rcases zcC g with g | g
  · exact s.base h g
  · refine ob2 (s.w.odd g) ?_
    intro u k n ee173
    subst ee173
    rw [h.same (s.evo h k) n o]
    exact s.base h k
theorem Side.tail (s : Side M bk bs O r v m W x X) (h : Bl M bk bs O r) : ∃ A B, X = A ++ B ∧ Wk M bk r x A m ∧ Up M bk r m B ∧ (∀ y ∈ A, O y = true ∧ bs y = m) ∧ ∀ y ∈ B, y ≠ m → bs y ≠ m := by
  refine ob59 (h.up x (s.xo h)) ?_
  intro A B w b _ hA hB
  rw [s.b] at w b hA hB
  exact ⟨A, B, s.u.uniq (w.up b), w, b, hA, hB⟩
theorem Side.apart {v' x' : Int} {W' X' : List Int} (s : Side M bk bs O r v m W x X) (s' : Side M bk bs O r v' m W' x' X') (h : Bl M bk bs O r) (d : ∀ y ∈ W, ∀ z ∈ W', bs y ≠ bs z) {y : Int} (g : y ∈ W) : y ∉ W' ++ X' := by
  intro k
  rcases List.mem_append.mp k with k | k
  · exact d y g y k rfl
  · refine ob15 (s.tail h) ?_
    intro A B e _ u _
    refine ob59 (s'.tail h) ?_
    intro A' B' e' _ u' hA' _
    rw [e'] at k
    rcases List.mem_append.mp k with k | k
    · exact s.n y g (hA' y k).2
    · have nd := s.nd h
      rw [e, u.uniq u'] at nd
      exact (List.nodup_append.mp nd).2.2 y g y (List.mem_append_right _ k) rfl
end
end Mine
end
section
namespace Mine
section
variable {M bk bs : Int → Int} {O : Int → Bool} {r : Int}
noncomputable def mkb (f : Int → Int) (c : Int) : List Int → Int → Int
  | [] => f
  | [_] => f
  | p :: v :: W => mkb (fun x => if x = p then c else f x) v W
theorem zdX {f : Int → Int} {c x : Int} : ∀ {W : List Int}, x ∉ ev W → mkb f c W x = f x
  | [], _ => rfl
  | [_], _ => rfl
  | p :: v :: W, h => by
    show mkb _ v W x = _
    rw [zdX fun z => h (List.mem_cons_of_mem _ z)]
    exact if_neg fun (z : x = p) => h (List.mem_cons.mpr (.inl z))
theorem Wk.trans {v a x : Int} {P Q : List Int} (h : Wk M bk r v P a) : Wk M bk r a Q x → Wk M bk r v (P ++ Q) x := by
  induction h with
  | nil => exact id
  | cons n _ ih => exact fun g => .cons n (ih g)
theorem Wk.back {B : Int → Int} {v x : Int} {W : List Int} (h : Wk M bk r v W x) : ∀ {f : Int → Int} {c : Int}, (∀ y ∈ ev W, B y = mkb f c W y) → W.Nodup → (∀ u ∈ ev W, M (M u) = u ∧ M u ≠ r) →
    ∀ y ∈ ev W, ∃ K, (∀ k ∈ K, k ∈ W) ∧ K.Nodup ∧ Wk M B r (M y) K c := by
  induction h with
  | nil => intro f c _ _ _ y m; exact absurd m List.not_mem_nil
  | @cons v x W n w ih =>
    intro f c hB nd hm y m
    have n1 := List.nodup_cons.mp nd
    have n2 := List.nodup_cons.mp n1.2
    have hv := hm v List.mem_cons_self
    have bv : B v = c := by
      rw [hB v List.mem_cons_self]
      show mkb _ (M v) W v = c
      rw [zdX fun z => n1.1 (List.mem_cons_of_mem _ (zbg z))]
      exact if_pos rfl
    have w1 : Wk M B r (M v) [M v, v] c := by
      have : Wk M B r (M v) (M v :: M (M v) :: []) c := .cons hv.2 (by rw [hv.1, bv]; exact .nil)
      rw [hv.1] at this; exact this
    rcases List.mem_cons.mp m with rfl | m
    · exact ⟨_, fun k hk => by
        rcases List.mem_cons.mp hk with rfl | hk
        · exact List.mem_cons_of_mem _ List.mem_cons_self
        · exact List.mem_singleton.mp hk ▸ List.mem_cons_self, List.nodup_cons.mpr ⟨fun z => n1.1 (List.mem_cons.mpr (.inl (List.mem_singleton.mp z).symm)), List.nodup_cons.mpr ⟨List.not_mem_nil, .nil⟩⟩, w1⟩
    · refine ob2 (ih (f := fun x => if x = v then c else f x) (c := M v) (fun z hz => hB z (List.mem_cons_of_mem _ hz)) n2.2 (fun u hu => hm u (List.mem_cons_of_mem _ hu)) y m) ?_
      intro K k1 k2 k3
      refine ⟨K ++ [M v, v], fun k hk => ?_, List.nodup_append.mpr ⟨k2, ?_, ?_⟩, k3.trans w1⟩
      · rcases List.mem_append.mp hk with hk | hk
        · exact List.mem_cons_of_mem _ (List.mem_cons_of_mem _ (k1 k hk))
        · rcases List.mem_cons.mp hk with rfl | hk
          · exact List.mem_cons_of_mem _ List.mem_cons_self
          · exact List.mem_singleton.mp hk ▸ List.mem_cons_self
      · exact List.nodup_cons.mpr ⟨fun z => n1.1 (List.mem_cons.mpr (.inl (List.mem_singleton.mp z).symm)), List.nodup_cons.mpr ⟨List.not_mem_nil, .nil⟩⟩
      · intro a ha b hb e
        subst e
        have ha := k1 a ha
        rcases List.mem_cons.mp hb with rfl | hb
        · exact n2.1 ha
        · exact n1.1 (List.mem_cons_of_mem _ (List.mem_singleton.mp hb ▸ ha))
theorem Wk.first (S : Int → Prop) {z x : Int} {A : List Int} (h : Wk M bk r z A x) : (∀ y ∈ od A, ¬ S y) ∨ ∃ P u Q, A = P ++ Q ∧ Wk M bk r z P u ∧ Wk M bk r u Q x ∧ u ∈ ev Q ∧ S (M u) ∧ ∀ y ∈ od P, ¬ S y := by
  induction h with
  | nil => exact .inl fun y m => absurd m List.not_mem_nil
  | @cons v x W n w ih =>
    by_cases s : S (M v)
    · exact .inr ⟨[], v, _, rfl, .nil, .cons n w, List.mem_cons_self, s, fun y m => absurd m List.not_mem_nil⟩
    · rcases ih with g | ⟨P, u, Q, e, p, q, k, l, o⟩
      · exact .inl fun y m => (List.mem_cons.mp m).elim (fun e => e ▸ s) (g y)
      · exact .inr ⟨v :: M v :: P, u, Q, by rw [e]; rfl, .cons n p, q, k, l, fun y m => (List.mem_cons.mp m).elim (fun e => e ▸ s) (o y)⟩
end
end Mine
end
section
namespace Mine
section
variable {M bk bs B : Int → Int} {O : Int → Bool} {r one other m x1 x2 : Int} {W1 W2 X1 X2 : List Int}
structure Rng (M bk bs B : Int → Int) (O : Int → Bool) (r one other m x1 x2 : Int) (W1 W2 X1 X2 : List Int) : Prop where
  h : Bl M bk bs O r
  s1 : Side M bk bs O r one m W1 x1 X1
  s2 : Side M bk bs O r other m W2 x2 X2
  dj : ∀ y ∈ W1, ∀ z ∈ W2, bs y ≠ bs z
  f1 : ∃ f, ∀ y ∈ ev W1, B y = mkb f other W1 y
  f2 : ∃ f, ∀ y ∈ ev W2, B y = mkb f one W2 y
  f0 : ∀ y, y ∉ ev W1 → y ∉ ev W2 → B y = bk y
theorem Rng.sym (R : Rng M bk bs B O r one other m x1 x2 W1 W2 X1 X2) : Rng M bk bs B O r other one m x2 x1 W2 W1 X2 X1 :=
  ⟨R.h, R.s2, R.s1, fun y hy z hz e => R.dj z hz y hy e.symm, R.f2, R.f1, fun y a b => R.f0 y b a⟩
theorem Rng.ap (R : Rng M bk bs B O r one other m x1 x2 W1 W2 X1 X2) {y : Int} (g : y ∈ W1) : y ∉ W2 ++ X2 := R.s1.apart R.s2 R.h R.dj g
theorem Rng.od1 (R : Rng M bk bs B O r one other m x1 x2 W1 W2 X1 X2) {y : Int} (g : y ∈ od (W1 ++ X1)) : B y = bk y :=
  R.f0 y (fun z => zmK (R.s1.nd R.h) (by rw [R.s1.w.evA]; exact List.mem_append_left _ z) g) fun z => R.sym.ap (zbg z) (zcz g)
theorem Rng.w1 (R : Rng M bk bs B O r one other m x1 x2 W1 W2 X1 X2) : Wk M B r one W1 x1 :=
  R.s1.w.congr fun y g => R.od1 (by rw [R.s1.w.odA]; exact List.mem_append_left _ g)
theorem Rng.tail (R : Rng M bk bs B O r one other m x1 x2 W1 W2 X1 X2) {Lm : List Int} (u : Up M bk r m Lm) : ∃ Q, X1 = Q ++ Lm ∧ Wk M B r x1 Q m ∧ Up M B r m Lm ∧ ∀ y ∈ Q, O y = true ∧ bs y = m := by
  refine ob59 (R.s1.tail R.h) ?_
  intro A L e w l hA _
  cases l.uniq u
  have k : ∀ y ∈ od X1, B y = bk y := fun y g => R.od1 (by rw [R.s1.w.odA]; exact List.mem_append_right _ g)
  rw [e, w.odA] at k
  exact ⟨A, e, w.congr fun y g => k y (List.mem_append_left _ g), l.congr fun y g => k y (List.mem_append_right _ g), hA⟩
theorem Rng.mm (R : Rng M bk bs B O r one other m x1 x2 W1 W2 X1 X2) {u : Int} (g : u ∈ ev W1) : M (M u) = u ∧ M u ≠ r := R.h.mt u (R.s1.evo R.h g) (R.s1.w.next g).1
theorem Rng.turn (R : Rng M bk bs B O r one other m x1 x2 W1 W2 X1 X2) {Lm : List Int} (um : Up M bk r m Lm) {y : Int} (g : y ∈ ev W1) :
    ∃ A, Wk M B r (M y) A m ∧ (A ++ Lm).Nodup ∧ ∀ x ∈ A, x ∈ W1 ∨ x ∈ W2 ∨ (O x = true ∧ bs x = m) := by
  refine lift fun gg back => ?_
  refine ob12 R.f1 ?_
  intro f hf
  refine ob2 (R.s1.w.back hf (List.nodup_append.mp (R.s1.nd R.h)).1 (fun u hu => R.mm hu) y g) ?_
  intro K k1 k2 k3
  refine ob4 (R.sym.tail um) ?_
  intro Q e w _ hQ
  refine back ?_
  clear back gg
  refine ⟨K ++ (W2 ++ Q), k3.trans (R.sym.w1.trans w), ?_, fun x hx => ?_⟩
  · have n2 := R.s2.nd R.h
    rw [e, ← List.append_assoc] at n2
    rw [List.append_assoc]
    refine List.nodup_append.mpr ⟨k2, n2, fun a ha b hb ee => R.ap (k1 a ha) ?_⟩
    rw [e, ← List.append_assoc, ee]; exact hb
  · rcases List.mem_append.mp hx with hx | hx
    · exact .inl (k1 x hx)
    · exact (List.mem_append.mp hx).elim (fun z => .inr (.inl z)) fun z => .inr (.inr (hQ x z))
theorem Bl.par (h : Bl M bk bs O r) {v x : Int} {W X : List Int} (s : Side M bk bs O r v m W x X) {b u : Int} {P Xu : List Int} (ob : O b = true) (p : Wk M bk r b P u) (g : Up M bk r u Xu) (n : u ≠ r)
    (hS : ∀ y ∈ od P, y ∉ ev W) (hu : M u ∉ od (W ++ X)) : ∀ a ∈ P, a ∉ W := by
  have evP : ∀ c ∈ ev P, O c = true := fun c hc => h.evO (p.up g) ob c (by rw [p.evA]; exact List.mem_append_left _ hc)
  have ee : ∀ a, a ∈ ev P → a ∉ ev W := fun a ha hw => by
    refine ob1 (p.at ha) ?_
    intro P1 P2 _ _ p2
    obtain ⟨W', Y, e, w', y⟩ := s.all.at (a := a) (by rw [s.w.evA]; exact List.mem_append_left _ hw)
    rw [e, w'.odA, y.uniq (p2.up g), p2.odA] at hu
    exact hu (List.mem_append_right _ (List.mem_append_right _ (g.next g.head n)))
  intro a ha hw
  rcases zcC ha with a1 | a1 <;> rcases zcC hw with w1 | w1
  · exact ee a a1 w1
  · refine ob2 (s.w.odd w1) ?_
    intro d hd nd ee174
    subst ee174
    have := (p.next a1).2
    rw [(h.mt d (s.evo h hd) nd).1] at this
    exact hS _ this hd
  · exact hS a a1 w1
  · refine ob2 (p.odd a1) ?_
    intro c hc nc ee175
    subst ee175
    refine ob2 (s.w.odd w1) ?_
    intro d hd nd e
    have : d = c := by rw [← (h.mt d (s.evo h hd) nd).1, e, (h.mt c (evP c hc) nc).1]
    exact ee c hc (this ▸ hd)
theorem Rng.pd (R : Rng M bk bs B O r one other m x1 x2 W1 W2 X1 X2) {b u : Int} {P Xu : List Int} (ob : O b = true) (p : Wk M bk r b P u) (g : Up M bk r u Xu) (n : u ≠ r)
    (hS : ∀ y ∈ od P, ¬ (y ∈ ev W1 ∨ y ∈ ev W2)) (hu : M u ∈ ev W1) : ∀ a ∈ P, a ∉ W1 ∧ a ∉ W2 ∧ ¬ (O a = true ∧ bs a = m) := by
  have evP : ∀ c ∈ ev P, O c = true := fun c hc => R.h.evO (p.up g) ob c (by rw [p.evA]; exact List.mem_append_left _ hc)
  have c1 := R.h.par R.s1 ob p g n (fun y hy z => hS y hy (.inl z)) fun z => zmK (R.s1.nd R.h) (by rw [R.s1.w.evA]; exact List.mem_append_left _ hu) z
  have c2 := R.h.par R.s2 ob p g n (fun y hy z => hS y hy (.inr z)) fun z => R.ap (zbg hu) (zcz z)
  have c3 : ∀ a ∈ ev P, bs a ≠ m := fun a ha e => by
    refine lift fun gg back => ?_
    refine ob1 (p.at ha) ?_
    intro P1 P2 _ _ p2
    refine ob59 (R.h.up a (evP a ha)) ?_
    intro A L w l _ hA _
    refine ob15 (R.s1.tail R.h) ?_
    intro A' L' e' _ l' _
    refine back ?_
    clear back gg
    rw [e] at w l hA
    have k : M u ∈ A ++ L := by
      rw [← (p2.up g).uniq (w.up l)]
      exact List.mem_append_right _ (zcz (g.next g.head n))
    rcases List.mem_append.mp k with k | k
    · exact R.s1.n _ (zbg hu) (hA _ k).2
    · have nd := R.s1.nd R.h
      rw [e', l'.uniq l] at nd
      exact (List.nodup_append.mp nd).2.2 _ (zbg hu) _ (List.mem_append_right _ k) rfl
  refine fun a ha => ⟨c1 a ha, c2 a ha, fun ⟨o, e⟩ => ?_⟩
  rcases zcC ha with a1 | a1
  · exact c3 a a1 e
  · refine ob2 (p.odd a1) ?_
    intro c hc nc ee176
    subst ee176
    exact c3 c hc ((R.h.same (evP c hc) nc o).symm.trans e)
end
end Mine
end
section
namespace Mine
section
variable {M bk bs B : Int → Int} {O : Int → Bool} {r one other m x1 x2 : Int} {W1 W2 X1 X2 : List Int}
theorem Up.wk {v : Int} {L : List Int} (h : Up M bk r v L) : ∃ W, L = W ++ [r] ∧ Wk M bk r v W r := by
  induction h with
  | root => exact ⟨[], rfl, .nil⟩
  | @step v L n _ ih =>
    refine ob7 ih ?_
    clear ih
    intro W e w
    exact ⟨v :: M v :: W, by rw [e]; rfl, .cons n w⟩
noncomputable def Cm (bs : Int → Int) (m : Int) (W1 W2 : List Int) (x : Int) : Prop := bs x = m ∨ ∃ y, (y ∈ W1 ∨ y ∈ W2) ∧ bs y = bs x
theorem Cm.sym {x : Int} (h : Cm bs m W1 W2 x) : Cm bs m W2 W1 x := h.imp id fun ⟨y, a, b⟩ => ⟨y, a.symm, b⟩
theorem Rng.mo (R : Rng M bk bs B O r one other m x1 x2 W1 W2 X1 X2) : O m = true ∧ bs m = m := by
  have := R.h.bb x1 (R.s1.xo R.h)
  rw [R.s1.b] at this; exact this
theorem Rng.from (R : Rng M bk bs B O r one other m x1 x2 W1 W2 X1 X2) {Lm Lc : List Int} (um : Up M bk r m Lm) {c : Int} (g : c ∈ ev W1) (uc : Up M bk r c Lc) :
    ∃ Q, Wk M B r c Q m ∧ Lc = Q ++ Lm ∧ ∀ x ∈ Q, x ∈ W1 ∨ (O x = true ∧ bs x = m) := by
  refine lift fun gg back => ?_
  refine ob1 (R.w1.at g) ?_
  intro P Q e _ q
  refine ob1 (R.s1.w.at g) ?_
  intro P' Q' e' p' q'
  refine ob4 (R.tail um) ?_
  intro Q2 e2 w2 _ hQ2
  refine back ?_
  clear back gg
  have q3 : Wk M B r c Q' x1 := q'.congr fun y hy => R.od1 (by rw [R.s1.w.odA, e', p'.odA]; exact List.mem_append_left _ (List.mem_append_right _ hy))
  refine ⟨Q' ++ Q2, q3.trans w2, ?_, fun x hx => (List.mem_append.mp hx).imp (fun z => ?_) (hQ2 x)⟩
  · rw [uc.uniq (q'.up R.s1.u), e2, List.append_assoc]
  · rw [e']; exact List.mem_append_right _ z
theorem Rng.bm (R : Rng M bk bs B O r one other m x1 x2 W1 W2 X1 X2) {y : Int} (g : y ∈ W1) (o : O (bs y) = true) : bs y ∈ ev W1 := by
  cases oy : O y with
  | true => exact R.s1.baseO R.h g oy
  | false => rw [R.h.ib y oy, oy] at o; cases o
theorem Rng.n1 (R : Rng M bk bs B O r one other m x1 x2 W1 W2 X1 X2) {Lm : List Int} (um : Up M bk r m Lm) {z : Int} (o : O z = true) (b : bs z ∈ ev W1) :
    ∃ A, Wk M B r z A m ∧ (A ++ Lm).Nodup ∧ ∀ x ∈ A, Cm bs m W1 W2 x := by
  refine ob59 (R.h.up z o) ?_
  intro A L w l nd hA _
  refine ob2 (R.from um b l) ?_
  intro Q q e hQ
  rcases w.first (fun y => y ∈ ev W1 ∨ y ∈ ev W2) with g | ⟨P, u, Q0, eA, p, q0, ku, su, hp⟩
  · refine ⟨A ++ Q, (w.congr fun y hy => R.f0 y (fun z => g y hy (.inl z)) fun z => g y hy (.inr z)).trans q, by rw [List.append_assoc, ← e]; exact nd, fun x hx => ?_⟩
    rcases List.mem_append.mp hx with hx | hx
    · exact .inr ⟨bs z, .inl (zbg b), by rw [(R.h.bb z o).2, (hA x hx).2]⟩
    · exact (hQ x hx).elim (fun z => .inr ⟨x, .inl z, rfl⟩) fun z => .inl z.2
  · have nr := (q0.next ku).1
    have mA : M u ∈ A := by rw [eA]; exact List.mem_append_right _ (zcz (q0.next ku).2)
    have hu : M u ∈ ev W1 := su.elim id fun k => absurd ((R.h.bb z o).2.trans (hA _ mA).2.symm) (R.dj _ (zbg b) _ (zbg k))
    have ou : O u = true := (hA u (by rw [eA]; exact List.mem_append_right _ (zbg ku))).1
    refine ob2 (R.turn um hu) ?_
    intro A1 a1 a2 a3
    rw [(R.h.mt u ou nr).1] at a1
    rw [eA, List.append_assoc] at nd
    have nP := List.nodup_append.mp nd
    have pd := R.pd o p (q0.up l) nr hp hu
    refine ⟨P ++ A1, (p.congr fun y hy => R.f0 y (fun z => hp y hy (.inl z)) fun z => hp y hy (.inr z)).trans a1, ?_, fun x hx => ?_⟩
    · rw [List.append_assoc]
      refine List.nodup_append.mpr ⟨nP.1, a2, fun a ha c hc ee => ?_⟩
      subst ee
      rcases List.mem_append.mp hc with hc | hc
      · have := pd a ha
        exact (a3 a hc).elim this.1 fun z => z.elim this.2.1 this.2.2
      · exact nP.2.2 a ha a (List.mem_append_right _ (by rw [e]; exact List.mem_append_right _ hc)) rfl
    · rcases List.mem_append.mp hx with hx | hx
      · exact .inr ⟨bs z, .inl (zbg b), by rw [(R.h.bb z o).2, (hA x (by rw [eA]; exact List.mem_append_left _ hx)).2]⟩
      · exact (a3 x hx).elim (fun z => .inr ⟨x, .inl z, rfl⟩) fun z => z.elim (fun z => .inr ⟨x, .inr z, rfl⟩) fun z => .inl z.2
theorem Rng.inn (R : Rng M bk bs B O r one other m x1 x2 W1 W2 X1 X2) {z y : Int} (o : O z = false) (g : y ∈ W1) (e : bs y = bs z) : ∃ u ∈ ev W1, M u = z := by
  rw [R.h.ib z o] at e
  have oy : O y = false := by
    cases oy : O y with
    | false => rfl
    | true => have := (R.h.bb y oy).1; rw [e, o] at this; cases this
  rw [R.h.ib y oy] at e
  subst e
  rcases zcC g with k | k
  · rw [R.s1.evo R.h k] at o; cases o
  · refine ob2 (R.s1.w.odd k) ?_
    intro u a _ c
    exact ⟨u, a, c⟩
theorem Rng.n1' (R : Rng M bk bs B O r one other m x1 x2 W1 W2 X1 X2) {Lm : List Int} (um : Up M bk r m Lm) {z y : Int} (g : y ∈ W1) (e : bs y = bs z) :
    ∃ A, Wk M B r z A m ∧ (A ++ Lm).Nodup ∧ ∀ x ∈ A, Cm bs m W1 W2 x := by
  cases o : O z with
  | true => exact R.n1 um o (e ▸ R.bm g (by rw [e]; exact (R.h.bb z o).1))
  | false =>
    refine ob7 (R.inn o g e) ?_
    intro u hu ee177
    subst ee177
    refine ob2 (R.turn um hu) ?_
    intro A1 a1 a2 a3
    exact ⟨A1, a1, a2, fun x hx => (a3 x hx).elim (fun z => .inr ⟨x, .inl z, rfl⟩) fun z => z.elim (fun z => .inr ⟨x, .inr z, rfl⟩) fun z => .inl z.2⟩
theorem Rng.new (R : Rng M bk bs B O r one other m x1 x2 W1 W2 X1 X2) {Lm : List Int} (um : Up M bk r m Lm) {z : Int} (c : Cm bs m W1 W2 z) :
    ∃ A, Wk M B r z A m ∧ (A ++ Lm).Nodup ∧ ∀ x ∈ A, Cm bs m W1 W2 x := by
  rcases c with c | ⟨y, g | g, e⟩
  · cases o : O z with
    | false => rw [R.h.ib z o] at c; rw [c, R.mo.1] at o; cases o
    | true =>
      refine ob59 (R.h.up z o) ?_
      intro A L w l nd hA _
      rw [c] at w l hA
      cases l.uniq um
      exact ⟨A, w.congr fun y hy => R.f0 y (fun k => R.s1.n y (zbg k) (hA y (zcz hy)).2) fun k => R.s2.n y (zbg k) (hA y (zcz hy)).2, nd, fun x hx => .inl (hA x hx).2⟩
  · exact R.n1' um g e
  · refine ob2 (R.sym.n1' um g e) ?_
    intro A a1 a2 a3
    exact ⟨A, a1, a2, fun x hx => (a3 x hx).sym⟩
end
end Mine
end
section
namespace Mine
section
variable {M bk bs B : Int → Int} {O : Int → Bool} {r one other m x1 x2 : Int} {W1 W2 X1 X2 : List Int}
theorem Rng.n2 (R : Rng M bk bs B O r one other m x1 x2 W1 W2 X1 X2) {Lm : List Int} (um : Up M bk r m Lm) {z u : Int} {A L P Q0 : List Int} (c : ¬ Cm bs m W1 W2 z) (ob : O (bs z) = true) (l : Up M bk r (bs z) L) (nd : (A ++ L).Nodup)
    (hA : ∀ x ∈ A, O x = true ∧ bs x = bs z) (hL : ∀ x ∈ L, x ≠ bs z → bs x ≠ bs z) (e : L = P ++ Q0) (p : Wk M bk r (bs z) P u) (q0 : Up M bk r u Q0) (nr : u ≠ r) (hp : ∀ y ∈ od P, ¬ (y ∈ ev W1 ∨ y ∈ ev W2)) (hu : M u ∈ ev W1) :
    ∃ L', Up M B r (bs z) L' ∧ (A ++ L').Nodup ∧ ∀ x ∈ L', x ≠ bs z → Cm bs m W1 W2 x ∨ bs x ≠ bs z := by
  have ou : O u = true := R.h.evO l ob u (by rw [e, p.evA]; exact List.mem_append_right _ q0.head)
  refine ob2 (R.turn um hu) ?_
  intro A1 a1 a2 a3
  rw [(R.h.mt u ou nr).1] at a1
  have pd := R.pd ob p q0 nr hp hu
  refine ob4 (R.tail um) ?_
  intro _ _ _ um' _
  -- the way up from the meeting place lies in the old way
  have sub : ∀ x ∈ Lm, x ∈ Q0 := fun x hx => by
    refine ob1 (R.h.up u ou) ?_
    intro A2 L2 w2 l2 _
    have eb := R.h.same ou nr (R.s1.evo R.h hu)
    have cb : bs u ∈ ev W1 := eb ▸ R.s1.base R.h hu
    refine ob2 (R.from um cb l2) ?_
    intro Q _ e2 _
    rw [q0.uniq (w2.up l2), e2]
    exact List.mem_append_right _ (List.mem_append_right _ hx)
  rw [e] at nd hL
  have n1 := List.nodup_append.mp nd
  have n3 := List.nodup_append.mp n1.2.1
  refine ⟨P ++ (A1 ++ Lm), (p.congr fun y hy => R.f0 y (fun k => hp y hy (.inl k)) fun k => hp y hy (.inr k)).up (a1.up um'), ?_, fun x hx ne => ?_⟩
  · refine List.nodup_append.mpr ⟨n1.1, List.nodup_append.mpr ⟨n3.1, a2, fun a ha b hb ee => ?_⟩, fun a ha b hb ee => ?_⟩
    · subst ee
      rcases List.mem_append.mp hb with hb | hb
      · have := pd a ha
        exact (a3 a hb).elim this.1 fun k => k.elim this.2.1 this.2.2
      · exact n3.2.2 a ha a (sub a hb) rfl
    · subst ee
      rcases List.mem_append.mp hb with hb | hb
      · exact n1.2.2 a ha a (List.mem_append_left _ hb) rfl
      rcases List.mem_append.mp hb with hb | hb
      · have g := (hA a ha).2
        exact (a3 a hb).elim (fun k => c (.inr ⟨a, .inl k, g⟩)) fun k => k.elim (fun k => c (.inr ⟨a, .inr k, g⟩)) fun k => c (.inl (g.symm.trans k.2))
      · exact n1.2.2 a ha a (List.mem_append_right _ (sub a hb)) rfl
  · rcases List.mem_append.mp hx with hx | hx
    · exact .inr (hL x (List.mem_append_left _ hx) ne)
    rcases List.mem_append.mp hx with hx | hx
    · exact .inl ((a3 x hx).elim (fun k => .inr ⟨x, .inl k, rfl⟩) fun k => k.elim (fun k => .inr ⟨x, .inr k, rfl⟩) fun k => .inl k.2)
    · exact .inr (hL x (List.mem_append_right _ (sub x hx)) ne)
theorem Rng.old (R : Rng M bk bs B O r one other m x1 x2 W1 W2 X1 X2) {Lm : List Int} (um : Up M bk r m Lm) {z : Int} (o : O z = true) (c : ¬ Cm bs m W1 W2 z) :
    ∃ A L, Wk M B r z A (bs z) ∧ Up M B r (bs z) L ∧ (A ++ L).Nodup ∧ (∀ x ∈ A, O x = true ∧ bs x = bs z) ∧ ∀ x ∈ L, x ≠ bs z → Cm bs m W1 W2 x ∨ bs x ≠ bs z := by
  refine ob59 (R.h.up z o) ?_
  intro A L w l nd hA hL
  have ob := (R.h.bb z o).1
  have w' : Wk M B r z A (bs z) := w.congr fun y hy => R.f0 y (fun k => c (.inr ⟨y, .inl (zbg k), (hA y (zcz hy)).2⟩)) fun k => c (.inr ⟨y, .inr (zbg k), (hA y (zcz hy)).2⟩)
  refine ob7 l.wk ?_
  intro W e v
  rcases v.first (fun y => y ∈ ev W1 ∨ y ∈ ev W2) with g | ⟨P, u, Q0, eP, p, q0, ku, su, hp⟩
  · refine ⟨A, L, w', ?_, nd, hA, fun x hx ne => .inr (hL x hx ne)⟩
    rw [e]
    exact (v.congr fun y hy => R.f0 y (fun k => g y hy (.inl k)) fun k => g y hy (.inr k)).up .root
  · have nr := (q0.next ku).1
    have e2 : L = P ++ (Q0 ++ [r]) := by rw [e, eP, List.append_assoc]
    rcases su with su | su
    · refine ob2 (R.n2 um c ob l nd hA hL e2 p (q0.up .root) nr hp su) ?_
      intro L' a b d
      exact ⟨A, L', w', a, b, hA, d⟩
    · refine ob2 (R.sym.n2 um (fun k => c k.sym) ob l nd hA hL e2 p (q0.up .root) nr (fun y hy k => hp y hy k.symm) su) ?_
      intro L' a b d
      exact ⟨A, L', w', a, b, hA, fun x hx ne => (d x hx ne).imp Cm.sym id⟩
end
end Mine
end
section
namespace Mine
section
variable {M bk bs B : Int → Int} {O : Int → Bool} {r one other m x1 x2 : Int} {W1 W2 X1 X2 : List Int}
theorem Cm.of {x z : Int} (e : bs x = bs z) (h : Cm bs m W1 W2 z) : Cm bs m W1 W2 x := by
  unfold Cm at *; rw [e]; exact h
theorem Rng.inn2 (R : Rng M bk bs B O r one other m x1 x2 W1 W2 X1 X2) {z : Int} (o : O z = false) (c : Cm bs m W1 W2 z) : ∃ u, (u ∈ ev W1 ∨ u ∈ ev W2) ∧ M u = z ∧ M (M u) = u ∧ u ≠ r := by
  rcases c with c | ⟨y, g | g, e⟩
  · rw [R.h.ib z o] at c; rw [c, R.mo.1] at o; cases o
  · refine ob7 (R.inn o g e) ?_
    intro u a b
    exact ⟨u, .inl a, b, (R.mm a).1, (R.s1.w.next a).1⟩
  · refine ob7 (R.sym.inn o g e) ?_
    intro u a b
    exact ⟨u, .inr a, b, (R.sym.mm a).1, (R.s2.w.next a).1⟩
theorem Rng.lm1 (R : Rng M bk bs B O r one other m x1 x2 W1 W2 X1 X2) {Lm : List Int} (um : Up M bk r m Lm) {x y : Int} (hx : x ∈ Lm) (g : y ∈ W1) : bs y ≠ bs x := by
  intro e
  have dis : ∀ b ∈ W1, b ≠ x := fun b hb ee => by
    refine ob7 (R.tail um) ?_
    intro Q e1 _
    have nd := R.s1.nd R.h
    rw [e1] at nd
    exact (List.nodup_append.mp nd).2.2 b hb x (List.mem_append_right _ hx) ee
  cases o : O (bs y) with
  | true =>
    have b := R.bm g o
    have ob := R.s1.evo R.h b
    have bb : bs (bs y) = bs y := by
      cases oy : O y with
      | true => exact (R.h.bb y oy).2
      | false => rw [R.h.ib y oy, R.h.ib y oy]
    refine ob59 (R.h.up (bs y) ob) ?_
    intro A L w l _ _ hL
    rw [bb] at w l hL
    refine ob2 (R.from um b l) ?_
    intro Q _ e2 _
    exact hL x (by rw [e2]; exact List.mem_append_right _ hx) (Ne.symm (dis _ (zbg b))) e.symm
  | false =>
    have oy : O y = false := by
      cases oy : O y with
      | false => rfl
      | true => rw [(R.h.bb y oy).1] at o; cases o
    have ox : O x = false := by
      cases ox : O x with
      | false => rfl
      | true => have := (R.h.bb x ox).1; rw [← e, o] at this; cases this
    rw [R.h.ib y oy, R.h.ib x ox] at e
    exact dis y g e
theorem Rng.lm (R : Rng M bk bs B O r one other m x1 x2 W1 W2 X1 X2) {Lm : List Int} (um : Up M bk r m Lm) {x : Int} (hx : x ∈ Lm) (n : x ≠ m) : ¬ Cm bs m W1 W2 x := by
  rintro (c | ⟨y, g | g, e⟩)
  · refine ob59 (R.s1.tail R.h) ?_
    intro A L _ _ l _ hL
    cases l.uniq um
    exact hL x hx n c
  · exact R.lm1 um hx g e
  · exact R.sym.lm1 um hx g e
theorem Rng.bl (R : Rng M bk bs B O r one other m x1 x2 W1 W2 X1 X2) {bs' : Int → Int} {O' : Int → Bool} (h1 : ∀ x, Cm bs m W1 W2 x → bs' x = m) (h2 : ∀ x, ¬ Cm bs m W1 W2 x → bs' x = bs x)
    (ho : ∀ x, O' x = true ↔ O x = true ∨ Cm bs m W1 W2 x) : Bl M B bs' O' r := by
  refine ob15 (R.s1.tail R.h) ?_
  intro _ Lm _ _ um _
  refine ob4 (R.tail um) ?_
  intro _ _ _ um' _
  have cm : Cm bs m W1 W2 m := .inl R.mo.2
  have noS : ∀ v, O v = true → v ≠ r → ¬ Cm bs m W1 W2 v → B (M v) = bk (M v) := fun v o n c =>
    R.f0 _ (fun k => c (.inr ⟨M v, .inl (zbg k), R.h.same o n (R.s1.evo R.h k)⟩)) fun k => c (.inr ⟨M v, .inr (zbg k), R.h.same o n (R.s2.evo R.h k)⟩)
  have old : ∀ v, O' v = true → ¬ Cm bs m W1 W2 v → O v = true := fun v o c => ((ho v).mp o).resolve_right c
  refine ⟨(ho r).mpr (.inl R.h.rt), fun v o n => ?_, fun v o n => ?_, fun v o => ?_, fun v o => ?_, fun v o => ?_, fun b o e n => ?_⟩
  · cases ov : O v with
    | true => exact R.h.mt v ov n
    | false =>
      obtain ⟨u, _, rfl, k, l⟩ := R.inn2 ov (((ho v).mp o).resolve_left (by rw [ov]; exact Bool.false_ne_true))
      rw [k]; exact ⟨rfl, l⟩
  · by_cases c : Cm bs m W1 W2 v
    · refine ob2 (R.new um c) ?_
      intro A a1 _ a3
      cases a1 with
      | nil =>
        have t := R.h.tp _ R.mo.1 R.mo.2 n
        rw [R.f0 _ (fun k => by rw [R.s1.evo R.h k] at t; cases t) fun k => by rw [R.s2.evo R.h k] at t; cases t]
        exact (ho _).mpr (.inl (R.h.nx _ R.mo.1 n))
      | cons _ w =>
        rcases w.hd with k | k
        · rw [k]; exact (ho m).mpr (.inr cm)
        · exact (ho _).mpr (.inr (a3 _ (List.mem_cons_of_mem _ (List.mem_cons_of_mem _ (zbg k)))))
    · have ov := old v o c
      rw [noS v ov n c]
      exact (ho _).mpr (.inl (R.h.nx v ov n))
  · by_cases c : Cm bs m W1 W2 v
    · rw [h1 v c]
      refine ob2 (R.new um c) ?_
      intro A a1 a2 a3
      refine ⟨A, Lm, a1, um', a2, fun x hx => ⟨(ho x).mpr (.inr (a3 x hx)), h1 x (a3 x hx)⟩, fun x hx ne => ?_⟩
      have := R.lm um hx ne
      rw [h2 x this]
      exact fun k => this (.inl k)
    · rw [h2 v c]
      refine ob59 (R.old um (old v o c) c) ?_
      intro A L a1 a2 a3 a4 a5
      refine ⟨A, L, a1, a2, a3, fun x hx => ⟨(ho x).mpr (.inl (a4 x hx).1), ?_⟩, fun x hx ne => ?_⟩
      · rw [h2 x fun k => c (k.of (a4 x hx).2.symm)]; exact (a4 x hx).2
      · by_cases cx : Cm bs m W1 W2 x
        · rw [h1 x cx]; exact fun k => c (.inl k.symm)
        · rw [h2 x cx]; exact (a5 x hx ne).resolve_left cx
  · by_cases c : Cm bs m W1 W2 v
    · rw [h1 v c]; exact ⟨(ho m).mpr (.inr cm), h1 m cm⟩
    · rw [h2 v c]
      have k := R.h.bb v (old v o c)
      exact ⟨(ho _).mpr (.inl k.1), (h2 _ fun z => c (z.of k.2.symm)).trans k.2⟩
  · have k : ¬ (O v = true ∨ Cm bs m W1 W2 v) := fun k => by rw [(ho v).mpr k] at o; cases o
    rw [h2 v fun z => k (.inr z)]
    exact R.h.ib v (Bool.eq_false_iff.mpr fun z => k (.inl z))
  · refine Bool.eq_false_iff.mpr fun k => ?_
    have key : O b = true → bs b = b → False := fun ob eb => by
      have t := R.h.tp b ob eb n
      rcases (ho _).mp k with k | k
      · rw [t] at k; cases k
      · refine ob4 (R.inn2 t k) ?_
        intro u g e1 e2 _
        have : u = b := by rw [← e2, e1, (R.h.mt b ob n).1]
        subst this
        rcases g with g | g
        · by_cases c : Cm bs m W1 W2 u
          · exact R.s1.n u (zbg g) (eb.trans (e.symm.trans (h1 u c)))
          · exact c (.inr ⟨u, .inl (zbg g), rfl⟩)
        · by_cases c : Cm bs m W1 W2 u
          · exact R.s2.n u (zbg g) (eb.trans (e.symm.trans (h1 u c)))
          · exact c (.inr ⟨u, .inr (zbg g), rfl⟩)
    by_cases c : Cm bs m W1 W2 b
    · have : b = m := e.symm.trans (h1 b c)
      rw [this] at key
      exact key R.mo.1 R.mo.2
    · exact key (old b o c) ((h2 b c).symm.trans e)
end
end Mine
end
section
namespace Mine
section
variable {M bk bs : Int → Int} {O : Int → Bool} {r : Int}
theorem Bl.init : Bl M bk (fun v => v) (fun v => decide (v = r)) r := by
  refine ⟨decide_eq_true rfl, fun v o n => absurd (of_decide_eq_true o) n, fun v o n => absurd (of_decide_eq_true o) n, fun v o => ?_, fun v o => ⟨o, rfl⟩, fun v _ => rfl, fun b o _ n => absurd (of_decide_eq_true o) n⟩
  cases of_decide_eq_true o
  exact ⟨[], [r], .nil, .root, List.nodup_cons.mpr ⟨List.not_mem_nil, .nil⟩, fun x hx => absurd hx List.not_mem_nil, fun x hx n => n⟩
theorem Bl.grow (h : Bl M bk bs O r) {p j : Int} (op : O p = true) (oj : O j = false) (ow : O (M j) = false) (mj : M (M j) = j) (jr : j ≠ r) (hn : M j ≠ j) :
    Bl M (fun x => if x = j then p else bk x) bs (fun x => O x || decide (x = M j)) r := by
  have wr : M j ≠ r := fun e => by rw [e, h.rt] at ow; cases ow
  have nj : ∀ v, O v = true → v ≠ r → M v ≠ j := fun v o n e => by
    have := (h.mt v o n).1
    rw [e] at this
    rw [this, o] at ow; cases ow
  have nw : ∀ v, O v = true → v ≠ r → M v ≠ M j := fun v o n e => by
    have := (h.mt v o n).1
    rw [e, mj] at this
    rw [this, o] at oj; cases oj
  have odj : ∀ {v : Int} {L : List Int}, Up M bk r v L → O v = true → ∀ y ∈ od L, y ≠ j ∧ y ≠ M j := fun u o y hy => by
    refine ob2 (u.odd hy) ?_
    intro c hc n ee178
    subst ee178
    have oc := h.evO u o c hc
    exact ⟨nj c oc n, nw c oc n⟩
  have keep : ∀ {v : Int} {L : List Int}, Up M bk r v L → O v = true → Up M (fun x => if x = j then p else bk x) r v L := fun u o => u.congr fun y hy => if_neg (odj u o y hy).1
  have out : ∀ {v : Int} {L : List Int}, Up M bk r v L → O v = true → M j ∉ L ∧ j ∉ L := fun u o => by
    constructor
    · intro k
      rcases zcC k with k | k
      · rw [h.evO u o _ k] at ow; cases ow
      · exact (odj u o _ k).2 rfl
    · intro k
      rcases zcC k with k | k
      · rw [h.evO u o _ k] at oj; cases oj
      · exact (odj u o _ k).1 rfl
  have bsw : ∀ x, x ≠ M j → bs x ≠ M j := fun x n e => by
    cases ox : O x with
    | true => have := (h.bb x ox).1; rw [e, ow] at this; cases this
    | false => exact n ((h.ib x ox).symm.trans e)
  have ho : ∀ x, (O x || decide (x = M j)) = true ↔ O x = true ∨ x = M j := fun x => by rw [Bool.or_eq_true, decide_eq_true_eq]
  refine ⟨(ho r).mpr (.inl h.rt), fun v o n => ?_, fun v o n => ?_, fun v o => ?_, fun v o => ?_, fun v o => ?_, fun b o e n => ?_⟩
  · rcases (ho v).mp o with o | rfl
    · exact h.mt v o n
    · rw [mj]; exact ⟨rfl, jr⟩
  · refine (ho _).mpr (.inl ?_)
    rcases (ho v).mp o with o | rfl
    · show O (if M v = j then p else bk (M v)) = true
      rw [if_neg (nj v o n)]; exact h.nx v o n
    · show O (if M (M j) = j then p else bk (M (M j))) = true
      rw [if_pos mj]; exact op
  · rcases (ho v).mp o with o | rfl
    · refine ob59 (h.up v o) ?_
      intro A L w l nd hA hL
      have ob := (h.bb v o).1
      refine ⟨A, L, w.congr fun y hy => if_neg ?_, keep l ob, nd, fun x hx => ⟨(ho x).mpr (.inl (hA x hx).1), (hA x hx).2⟩, hL⟩
      exact (odj (w.up l) o y (by rw [w.odA]; exact List.mem_append_left _ hy)).1
    · refine ob15 (h.up p op) ?_
      intro A L w l nd _
      have u := w.up l
      rw [h.ib _ ow]
      have k := out u op
      refine ⟨[], M j :: M (M j) :: (A ++ L), .nil, .step wr ?_, ?_, fun x hx => absurd hx List.not_mem_nil, fun x _ n => bsw x n⟩
      · show Up M _ r (if M (M j) = j then p else bk (M (M j))) _
        rw [if_pos mj]; exact keep u op
      · rw [mj]
        refine List.nodup_cons.mpr ⟨fun z => ?_, List.nodup_cons.mpr ⟨k.2, nd⟩⟩
        rcases List.mem_cons.mp z with z | z
        · exact hn z
        · exact k.1 z
  · rcases (ho v).mp o with o | rfl
    · exact ⟨(ho _).mpr (.inl (h.bb v o).1), (h.bb v o).2⟩
    · rw [h.ib _ ow]; exact ⟨o, h.ib _ ow⟩
  · have k : ¬ (O v = true ∨ v = M j) := fun k => by rw [(ho v).mpr k] at o; cases o
    exact h.ib v (Bool.eq_false_iff.mpr fun z => k (.inl z))
  · refine Bool.eq_false_iff.mpr fun k => ?_
    rcases (ho b).mp o with o | rfl
    · rcases (ho _).mp k with k | k
      · rw [h.tp b o e n] at k; cases k
      · exact nw b o n k
    · rw [mj] at k
      rcases (ho j).mp k with k | k
      · rw [oj] at k; cases k
      · exact hn k.symm
end
end Mine
end
section
namespace Mine
section
variable {M bk bs : Int → Int} {O : Int → Bool} {r : Int}
theorem Up.firstE (p : Int → Prop) {v : Int} {L : List Int} (h : Up M bk r v L) : (∃ a ∈ ev L, p a) → ∃ W x X, L = W ++ X ∧ Wk M bk r v W x ∧ Up M bk r x X ∧ p x ∧ ∀ y ∈ ev W, ¬ p y := by
  induction h with
  | root =>
    intro zz51
    refine ob7 zz51 ?_
    clear zz51
    intro a ha pa
    exact ⟨[], r, [r], rfl, .nil, .root, List.mem_singleton.mp ha ▸ pa, fun y hy => absurd hy List.not_mem_nil⟩
  | @step v L n u ih =>
    intro zz52
    refine ob7 zz52 ?_
    clear zz52
    intro a ha pa
    by_cases pv : p v
    · exact ⟨[], v, _, rfl, .nil, .step n u, pv, fun y hy => absurd hy List.not_mem_nil⟩
    · rcases List.mem_cons.mp ha with rfl | ha
      · exact absurd pa pv
      · refine ob21 (ih ⟨a, ha, pa⟩) ?_
        intro W x X e w k l o
        exact ⟨v :: M v :: W, x, X, by rw [e]; rfl, .cons n w, k, l, fun y hy => (List.mem_cons.mp hy).elim (fun z => z ▸ pv) (o y)⟩
structure Seen (M bk bs : Int → Int) (r one : Int) (seen : List Int) : Prop where
  all : ∀ {L : List Int}, Up M bk r one L → ∀ y ∈ ev L, bs y ∈ seen
  on : ∀ b ∈ seen, bs b = b ∧ ∀ {L : List Int}, Up M bk r one L → b ∈ ev L
structure Met (M bk bs : Int → Int) (O : Int → Bool) (r other : Int) (seen W : List Int) (x : Int) (X : List Int) : Prop where
  w : Wk M bk r other W x
  u : Up M bk r x X
  n : ∀ y ∈ W, bs y ∉ seen
theorem Bl.upL (h : Bl M bk bs O r) {v : Int} (o : O v = true) : ∃ L, Up M bk r v L := by
  refine ob1 (h.up v o) ?_
  intro A L w l _
  exact ⟨_, w.up l⟩
theorem Bl.sides (h : Bl M bk bs O r) {one other x2 : Int} {seen W2 X2 : List Int} (o1 : O one = true) (o2 : O other = true) (s : Seen M bk bs r one seen) (t : Met M bk bs O r other seen W2 x2 X2) (e : bs x2 ∈ seen) :
    ∃ W1 x1 X1, Side M bk bs O r one (bs x2) W1 x1 X1 ∧ Side M bk bs O r other (bs x2) W2 x2 X2 ∧ ∀ y ∈ W1, ∀ z ∈ W2, bs y ≠ bs z := by
  refine ob12 (h.upL o1) ?_
  intro L u
  have sO : ∀ b ∈ seen, O b = true := fun b hb => h.evO u o1 b ((s.on b hb).2 u)
  refine ob21 (u.firstE (fun y => bs y = bs x2) ⟨bs x2, (s.on _ e).2 u, (s.on _ e).1⟩) ?_
  intro W1 x1 X1 eL w1 u1 p1 f1
  have evO : ∀ y ∈ ev W1, O y = true ∧ bs y ∈ seen := fun y hy => by
    have : y ∈ ev L := by rw [eL, w1.evA]; exact List.mem_append_left _ hy
    exact ⟨h.evO u o1 y this, s.all u y this⟩
  have odd : ∀ y ∈ W1, O y = true → ∃ u ∈ ev W1, bs y = bs u := fun y hy o => by
    rcases zcC hy with k | k
    · exact ⟨y, k, rfl⟩
    · refine ob2 (w1.odd k) ?_
      intro c hc nc ee179
      subst ee179
      exact ⟨c, hc, h.same (evO c hc).1 nc o⟩
  refine ⟨W1, x1, X1, ⟨o1, w1, u1, p1, fun y hy ee => ?_⟩, ⟨o2, t.w, t.u, rfl, fun y hy ee => t.n y hy (ee ▸ e)⟩, fun y hy z hz ee => ?_⟩
  · cases oy : O y with
    | true =>
      refine ob7 (odd y hy oy) ?_
      intro c hc k
      exact f1 c hc (k.symm.trans ee)
    | false => rw [h.ib y oy] at ee; rw [ee, sO _ e] at oy; cases oy
  · cases oy : O y with
    | true =>
      refine ob7 (odd y hy oy) ?_
      intro c hc k
      exact t.n z hz (ee ▸ k ▸ (evO c hc).2)
    | false =>
      have oz : O z = false := by
        cases oz : O z with
        | false => rfl
        | true => have := (h.bb z oz).1; rw [← ee, h.ib y oy, oy] at this; cases this
      rw [h.ib y oy, h.ib z oz] at ee
      subst ee
      rcases zcC hy with k | k
      · rw [(evO y k).1] at oy; cases oy
      refine ob2 (w1.odd k) ?_
      intro c hc nc e1
      rcases zcC hz with l | l
      · rw [h.evO (t.w.up t.u) o2 y (by rw [t.w.evA]; exact List.mem_append_left _ l)] at oy; cases oy
      refine ob2 (t.w.odd l) ?_
      intro d hd nd e2
      have od2 := h.evO (t.w.up t.u) o2 d (by rw [t.w.evA]; exact List.mem_append_left _ hd)
      have : c = d := by rw [← (h.mt c (evO c hc).1 nc).1, e1, ← e2, (h.mt d od2 nd).1]
      exact t.n d (zbg hd) (this ▸ (evO c hc).2)
theorem Bl.next (h : Bl M bk bs O r) {b : Int} (o : O b = true) (n : b ≠ r) : O (bs (bk (M b))) = true ∧ bs (bs (bk (M b))) = bs (bk (M b)) := h.bb _ (h.nx b o n)
theorem Met.next (h : Bl M bk bs O r) {other x : Int} {seen W X : List Int} (o2 : O other = true) (t : Met M bk bs O r other seen W x X) (sO : ∀ b ∈ seen, O b = true) (k : bs x ∉ seen) (n : bs x ≠ r) :
    ∃ W' X', Met M bk bs O r other seen W' (bk (M (bs x))) X' ∧ X'.length < X.length := by
  have ox : O x = true := h.evO (t.w.up t.u) o2 x (by rw [t.w.evA]; exact List.mem_append_right _ t.u.head)
  have hb := h.bb x ox
  refine ob59 (h.up x ox) ?_
  intro A L w l _ hA _
  have eX := t.u.uniq (w.up l)
  generalize bs x = b at *
  cases l with
  | root => exact absurd rfl n
  | @step _ L' _ l' =>
    refine ⟨W ++ (A ++ [b, M b]), L', ⟨t.w.trans (w.trans (.cons n .nil)), l', fun y hy => ?_⟩, ?_⟩
    · rcases List.mem_append.mp hy with hy | hy
      · exact t.n y hy
      rcases List.mem_append.mp hy with hy | hy
      · rw [(hA y hy).2]; exact k
      rcases List.mem_cons.mp hy with rfl | hy
      · rw [hb.2]; exact k
      · rw [List.mem_singleton.mp hy]
        have := h.tp b hb.1 hb.2 n
        rw [h.ib _ this]
        exact fun z => by rw [sO _ z] at this; cases this
    · rw [eX, List.length_append, List.length_cons, List.length_cons]; lia
end
end Mine
end
section
namespace Mine
section
variable {M bk bs : Int → Int} {O : Int → Bool} {r : Int}
structure Sn (M bk bs : Int → Int) (r one : Int) (seen P : List Int) (b : Int) (X : List Int) : Prop where
  w : Wk M bk r one P b
  u : Up M bk r b X
  bb : bs b = b
  i : b ∈ seen
  all : ∀ y ∈ ev P, bs y ∈ seen
  on : ∀ c ∈ seen, bs c = c ∧ ∀ {L : List Int}, Up M bk r one L → c ∈ ev L
theorem Sn.init (h : Bl M bk bs O r) {one : Int} (o : O one = true) : ∃ P X, Sn M bk bs r one [bs one] P (bs one) X := by
  refine ob59 (h.up one o) ?_
  intro A L w l _ hA _
  refine ⟨A, L, w, l, (h.bb one o).2, List.mem_singleton.mpr rfl, fun y hy => List.mem_singleton.mpr (hA y (zbg hy)).2, fun c hc => ?_⟩
  cases List.mem_singleton.mp hc
  exact ⟨(h.bb one o).2, fun u => by rw [u.uniq (w.up l), w.evA]; exact List.mem_append_right _ l.head⟩
theorem Sn.next (h : Bl M bk bs O r) {one b : Int} {seen seen' P X : List Int} (o : O one = true) (s : Sn M bk bs r one seen P b X) (n : b ≠ r) (hs : ∀ c, c ∈ seen' ↔ c ∈ seen ∨ c = bs (bk (M b))) :
    ∃ P' X', Sn M bk bs r one seen' P' (bs (bk (M b))) X' ∧ X'.length < X.length := by
  have ob : O b = true := h.evO (s.w.up s.u) o b (by rw [s.w.evA]; exact List.mem_append_right _ s.u.head)
  have ox := h.nx b ob n
  have u := s.u
  cases u with
  | root => exact absurd rfl n
  | @step _ X0 _ x =>
    refine ob59 (h.up _ ox) ?_
    intro A L w l _ hA _
    have hb := h.bb _ ox
    generalize bs (bk (M b)) = c at *
    have e := x.uniq (w.up l)
    have w' : Wk M bk r one (P ++ (b :: M b :: A)) c := s.w.trans (.cons n w)
    refine ⟨P ++ (b :: M b :: A), L, ⟨w', l, hb.2, (hs c).mpr (.inr rfl), fun y hy => ?_, fun d hd => ?_⟩, ?_⟩
    · rw [s.w.evA] at hy
      rcases List.mem_append.mp hy with hy | hy
      · exact (hs _).mpr (.inl (s.all y hy))
      rcases List.mem_cons.mp hy with rfl | hy
      · rw [s.bb]; exact (hs _).mpr (.inl s.i)
      · rw [(hA y (zbg hy)).2]; exact (hs _).mpr (.inr rfl)
    · rcases (hs d).mp hd with hd | rfl
      · exact s.on d hd
      · exact ⟨hb.2, fun u => by rw [u.uniq (w'.up l), w'.evA]; exact List.mem_append_right _ l.head⟩
    · rw [e, List.length_cons, List.length_cons, List.length_append]; lia
theorem Sn.end {one : Int} {seen P X : List Int} (s : Sn M bk bs r one seen P r X) : Seen M bk bs r one seen := by
  have u := s.u
  cases u with
  | step n _ => exact absurd rfl n
  | root =>
    refine ⟨fun u y hy => ?_, s.on⟩
    rw [u.uniq (s.w.up .root), s.w.evA] at hy
    rcases List.mem_append.mp hy with hy | hy
    · exact s.all y hy
    · rw [List.mem_singleton.mp hy, s.bb]; exact s.i
theorem Seen.root {one : Int} {seen L : List Int} (s : Seen M bk bs r one seen) (u : Up M bk r one L) (b : bs r = r) : r ∈ seen := b ▸ s.all u r u.end
structure Mk (M bk bs : Int → Int) (r v c0 : Int) (x : Int) (W0 ring0 : List Int) (D W : List Int) (p c : Int) (f : Int → Int) (ring : List Int) : Prop where
  e : W0 = D ++ W
  d : Wk M bk r v D p
  w : Wk M bk r p W x
  k : ∀ y, mkb f c W y = mkb bk c0 W0 y
  o : ∀ y, y ∉ ev D → f y = bk y
  g : ∀ b, b ∈ ring ↔ b ∈ ring0 ∨ ∃ y ∈ D, bs y = b
theorem Mk.init {v c0 x : Int} {W0 ring0 : List Int} (w : Wk M bk r v W0 x) : Mk M bk bs r v c0 x W0 ring0 [] W0 v c0 bk ring0 :=
  ⟨rfl, .nil, w, fun _ => rfl, fun _ _ => rfl, fun b => ⟨.inl, fun z => z.elim id fun ⟨y, hy, _⟩ => absurd hy List.not_mem_nil⟩⟩
theorem Mk.next {v c0 x p c : Int} {W0 ring0 D W ring ring' : List Int} {f : Int → Int} (m : Mk M bk bs r v c0 x W0 ring0 D W p c f ring) (nd : W0.Nodup) (n : p ≠ x) (hr : ∀ b, b ∈ ring' ↔ b ∈ ring ∨ b = bs p ∨ b = bs (M p)) :
    ∃ D' W', Mk M bk bs r v c0 x W0 ring0 D' W' (f (M p)) (M p) (fun y => if y = p then c else f y) ring' ∧ W'.length < W.length ∧ f (M p) = bk (M p) ∧ (if M p = p then c else f (M p)) = f (M p) ∧ p ∈ ev W0 := by
  have w := m.w
  cases w with
  | nil => exact absurd rfl n
  | @cons _ _ W n0 w' =>
    have nd' := nd
    rw [m.e] at nd'
    have n2 := List.nodup_append.mp nd'
    have np := List.nodup_cons.mp n2.2.1
    have mp : M p ∉ ev D := fun z => n2.2.2 _ (zbg z) _ (List.mem_cons_of_mem _ List.mem_cons_self) rfl
    have ef : f (M p) = bk (M p) := m.o _ mp
    have nmp : M p ≠ p := fun z => np.1 (List.mem_cons.mpr (.inl z.symm))
    have d' : Wk M bk r v (D ++ [p, M p]) (bk (M p)) := m.d.trans (.cons n0 .nil)
    refine ⟨D ++ [p, M p], W, ⟨by rw [m.e, List.append_assoc]; rfl, ef ▸ d', ef ▸ w', fun y => m.k y, fun y hy => ?_, fun b => ?_⟩, by rw [List.length_cons, List.length_cons]; lia, ef, if_neg nmp, ?_⟩
    · rw [m.d.evA] at hy
      have h1 : y ∉ ev D := fun z => hy (List.mem_append_left _ z)
      have h2 : y ≠ p := fun z => hy (List.mem_append_right _ (z ▸ List.mem_cons_self))
      show (if y = p then c else f y) = _
      rw [if_neg h2]; exact m.o y h1
    · rw [hr b, m.g b]
      constructor
      · rintro ((z | ⟨y, hy, z⟩) | z | z)
        · exact .inl z
        · exact .inr ⟨y, List.mem_append_left _ hy, z⟩
        · exact .inr ⟨p, List.mem_append_right _ List.mem_cons_self, z.symm⟩
        · exact .inr ⟨M p, List.mem_append_right _ (List.mem_cons_of_mem _ List.mem_cons_self), z.symm⟩
      · rintro (z | ⟨y, hy, z⟩)
        · exact .inl (.inl z)
        rcases List.mem_append.mp hy with hy | hy
        · exact .inl (.inr ⟨y, hy, z⟩)
        rcases List.mem_cons.mp hy with rfl | hy
        · exact .inr (.inl z.symm)
        · exact .inr (.inr (List.mem_singleton.mp hy ▸ z.symm))
    · rw [m.e, m.d.evA]; exact List.mem_append_right _ List.mem_cons_self
theorem Mk.end {v c0 x c : Int} {W0 ring0 D W ring : List Int} {f : Int → Int} (m : Mk M bk bs r v c0 x W0 ring0 D W x c f ring) (hn : x ∉ W0) : (∀ y, f y = mkb bk c0 W0 y) ∧ ∀ b, b ∈ ring ↔ b ∈ ring0 ∨ ∃ y ∈ W0, bs y = b := by
  have w := m.w
  rcases w.hd with _ | z
  · cases w with
    | nil => 
      have e := m.e
      rw [List.append_nil] at e
      exact ⟨m.k, by rw [e]; exact m.g⟩
    | cons _ _ => exact absurd (by rw [m.e]; exact List.mem_append_right _ List.mem_cons_self) hn
  · exact absurd (by rw [m.e]; exact List.mem_append_right _ (zbg z)) hn
end
end Mine
end
section
namespace Mine
theorem zmy {l : List Int} (n : l.Nodup) : ∀ {k : List Int}, (∀ x ∈ l, x ∈ k) → l.length ≤ k.length := by
  induction l with
  | nil => intro k _; exact Nat.zero_le _
  | cons a l ih =>
    intro k h
    have na := List.nodup_cons.mp n
    have ha := h a List.mem_cons_self
    have := ih na.2 (k := k.erase a) fun x hx => (List.mem_erase_of_ne fun (e : x = a) => na.1 (e ▸ hx)).mpr (h x (List.mem_cons_of_mem _ hx))
    rw [List.length_erase_of_mem ha] at this
    have := List.length_pos_of_mem ha
    rw [List.length_cons]; lia
theorem zgj {f : Int → Int} : ∀ (n : Nat) {l : List Int}, l.length ≤ n → l.Nodup → (∀ x ∈ l, f x ∈ l ∧ f (f x) = x ∧ f x ≠ x) → l.length % 2 = 0
  | 0, l, h, _, _ => by rw [Nat.le_zero.mp h]
  | n + 1, [], _, _, _ => rfl
  | n + 1, a :: l, h, nd, hf => by
    have na := List.nodup_cons.mp nd
    refine ob16 (hf a List.mem_cons_self) ?_
    intro fa ffa ne
    have fl : f a ∈ l := (List.mem_cons.mp fa).resolve_left ne
    have le := List.length_erase_of_mem fl
    have pos := List.length_pos_of_mem fl
    rw [List.length_cons] at h ⊢
    have := zgj n (l := l.erase (f a)) (by lia) (na.2.erase _) fun x hx => by
      have xl := List.mem_of_mem_erase hx
      have xn : x ≠ f a := fun e => (e ▸ na.2.not_mem_erase : x ∉ l.erase (f a)) hx
      have xa : x ≠ a := fun e => na.1 (e ▸ xl)
      refine ob16 (hf x (List.mem_cons_of_mem _ xl)) ?_
      intro k1 k2 k3
      have h1 : f x ≠ a := fun e => xn (by rw [← k2, e])
      have h2 : f x ≠ f a := fun e => xa (by rw [← k2, e, ffa])
      exact ⟨(List.mem_erase_of_ne h2).mpr ((List.mem_cons.mp k1).resolve_left h1), k2, k3⟩
    lia
section
variable {M bk bs : Int → Int} {O : Int → Bool} {r : Int}
theorem Bl.bsr (h : Bl M bk bs O r) : bs r = r := by
  refine ob17 (h.up r h.rt) ?_
  intro A L w _
  generalize bs r = b at *
  cases w with
  | nil => rfl
  | cons n _ => exact absurd rfl n
theorem Bl.low (h : Bl M bk bs O r) {x : Int} (o : O x = true) (n : bs x ≠ x) : O (M x) = true ∧ bs (M x) = bs x ∧ x ≠ r := by
  have nr : x ≠ r := fun e => n (e ▸ h.bsr)
  refine ob59 (h.up x o) ?_
  intro A L w _ _ hA _
  generalize bs x = b at *
  cases w with
  | nil => exact absurd rfl n
  | cons _ _ => exact ⟨(hA _ (List.mem_cons_of_mem _ List.mem_cons_self)).1, (hA _ (List.mem_cons_of_mem _ List.mem_cons_self)).2, nr⟩
theorem Bl.hung (h : Bl M bk bs O r) {N : Int → Int} {dn : List Int} {I : Int → Prop} (nd : dn.Nodup) (hd : ∀ v, O v = true ↔ v ∈ dn) (hI : ∀ x, I x → O x = false ∧ O (M x) = true ∧ M (M x) = x ∧ M x ≠ r)
    (hM : ∀ v, O v = true → v ≠ r → M v ≠ v) (edge : ∀ v, O v = true → bs v = bs (N v) ∨ I (N v)) (hN : ∀ v, O v = true → N (N v) = v ∧ N v ≠ v) : False := by
  -- a blossom has a place that N pairs with an inner one
  have ex : ∀ b, O b = true → bs b = b → ∃ x, O x = true ∧ bs x = b ∧ I (N x) := fun b ob eb => Classical.byContradiction fun no => by
    have mem : ∀ x, x ∈ dn.filter (fun v => decide (bs v = b)) ↔ O x = true ∧ bs x = b := fun x => by rw [List.mem_filter, ← hd x, decide_eq_true_eq]
    have nf : (dn.filter (fun v => decide (bs v = b))).Nodup := nd.sublist List.filter_sublist
    generalize dn.filter (fun v => decide (bs v = b)) = l at *
    have e1 := zgj (f := N) l.length (Nat.le_refl _) nf fun x hx => by
      have k := (mem x).mp hx
      have j : bs (N x) = b := ((edge x k.1).resolve_right fun z => no ⟨x, k.1, k.2, z⟩).symm.trans k.2
      have on : O (N x) = true := by
        cases on : O (N x) with
        | true => rfl
        | false => rw [h.ib _ on] at j; rw [j, ob] at on; cases on
      exact ⟨(mem _).mpr ⟨on, j⟩, hN x k.1⟩
    have bl : b ∈ l := (mem b).mpr ⟨ob, eb⟩
    have e2 := zgj (f := M) (l.erase b).length (Nat.le_refl _) (nf.erase _) fun x hx => by
      have k := (mem x).mp (List.mem_of_mem_erase hx)
      have xb : x ≠ b := fun e => (e ▸ nf.not_mem_erase : x ∉ l.erase b) hx
      refine ob16 (h.low k.1 (fun e => xb (e.symm.trans k.2))) ?_
      intro k1 k2 k3
      have m := h.mt x k.1 k3
      refine ⟨(List.mem_erase_of_ne fun e => ?_).mpr ((mem _).mpr ⟨k1, k2.trans k.2⟩), m.1, hM x k.1 k3⟩
      have t := h.tp b ob eb (e ▸ m.2)
      rw [← e, m.1, k.1] at t; cases t
    rw [List.length_erase_of_mem bl] at e2
    have := List.length_pos_of_mem bl
    lia
  have ex' : ∀ b, ∃ x, O b = true → bs b = b → O x = true ∧ bs x = b ∧ I (N x) := fun b => by
    by_cases k : O b = true ∧ bs b = b
    · refine ob12 (ex b k.1 k.2) ?_
      intro x hx
      exact ⟨x, fun _ _ => hx⟩
    · exact ⟨0, fun a b => absurd ⟨a, b⟩ k⟩
  let g : Int → Int := fun b => Classical.choose (ex' b)
  have hg : ∀ b, O b = true → bs b = b → O (g b) = true ∧ bs (g b) = b ∧ I (N (g b)) := fun b => Classical.choose_spec (ex' b)
  have mem : ∀ b, b ∈ dn.filter (fun v => decide (bs v = v)) ↔ O b = true ∧ bs b = b := fun x => by rw [List.mem_filter, ← hd x, decide_eq_true_eq]
  have nf : (dn.filter (fun v => decide (bs v = v))).Nodup := nd.sublist List.filter_sublist
  generalize dn.filter (fun v => decide (bs v = v)) = l at *
  have rl : r ∈ l := (mem r).mpr ⟨h.rt, h.bsr⟩
  have inj : ∀ a ∈ l, ∀ b ∈ l, M (N (g a)) = M (N (g b)) → a = b := fun a ha b hb e => by
    have ka := hg a ((mem a).mp ha).1 ((mem a).mp ha).2
    have kb := hg b ((mem b).mp hb).1 ((mem b).mp hb).2
    have e1 : N (g a) = N (g b) := by rw [← (hI _ ka.2.2).2.2.1, e, (hI _ kb.2.2).2.2.1]
    have e2 : g a = g b := by rw [← (hN _ ka.1).1, e1, (hN _ kb.1).1]
    rw [← ka.2.1, e2, kb.2.1]
  have nm : (l.map fun b => M (N (g b))).Nodup := List.pairwise_map.mpr (List.Pairwise.imp_of_mem (fun ha hb n e => n (inj _ ha _ hb e)) nf)
  have := zmy nm (k := l.erase r) fun y hy => by
    refine ob7 (List.mem_map.mp hy) ?_
    intro b hb ee180
    subst ee180
    have k := hg b ((mem b).mp hb).1 ((mem b).mp hb).2
    have i := hI _ k.2.2
    have bs' : bs (M (N (g b))) = M (N (g b)) := Classical.byContradiction fun z => by
      have := (h.low i.2.1 z).1
      rw [i.2.2.1, i.1] at this; cases this
    exact (List.mem_erase_of_ne i.2.2.2).mpr ((mem _).mpr ⟨i.2.1, bs'⟩)
  rw [List.length_map, List.length_erase_of_mem rl] at this
  have := List.length_pos_of_mem rl
  lia
end
end Mine
end
section
namespace Mine
noncomputable def cnt (p : Int → Bool) (n : Nat) : Nat := (List.range n).countP fun i : Nat => p (i : Int)
theorem zc0 {p : Int → Bool} {n : Nat} : cnt p (n + 1) = cnt p n + (if p n then 1 else 0) := by
  unfold cnt
  rw [List.range_succ, List.countP_append, List.countP_singleton]
theorem zhe {p q : Int → Bool} : ∀ {n : Nat}, (∀ i : Int, 0 ≤ i → i < n → p i = q i) → cnt p n = cnt q n
  | 0, _ => rfl
  | n + 1, h => by rw [zc0, zc0, zhe fun i h0 h1 => h i h0 (by lia), h n (by lia) (by lia)]
theorem zhd {p q : Int → Bool} : ∀ {n : Nat}, (∀ i : Int, 0 ≤ i → i < n → p i = true → q i = true) → cnt p n ≤ cnt q n
  | 0, _ => Nat.le_refl _
  | n + 1, h => by
    rw [zc0, zc0]
    have := zhd (n := n) fun i h0 h1 => h i h0 (by lia)
    have k := h n (by lia) (by lia)
    cases e : p n with
    | false => rw [if_neg Bool.false_ne_true]; lia
    | true => rw [k e, if_pos rfl]; lia
theorem zix {p : Int → Bool} : ∀ {n : Nat}, cnt p n ≤ n
  | 0 => Nat.le_refl _
  | n + 1 => by
    rw [zc0]
    have := zix (p := p) (n := n)
    cases p n
    · rw [if_neg Bool.false_ne_true]; lia
    · rw [if_pos rfl]; lia
theorem zgo {p q : Int → Bool} {x : Int} : ∀ {n : Nat}, 0 ≤ x → x < n → p x = false → q x = true → (∀ i, i ≠ x → q i = p i) → cnt q n = cnt p n + 1
  | 0, h0, h1, _, _, _ => by lia
  | n + 1, h0, h1, hp, hq, h => by
    rw [zc0, zc0]
    by_cases e : x = n
    · subst e
      rw [hp, hq, if_pos rfl, if_neg Bool.false_ne_true, zhe fun i _ hi => h i (by lia)]
    · rw [zgo h0 (by lia) hp hq h, h n (fun z => e z.symm)]; lia
theorem zkt {p q : Int → Bool} {x : Int} {n : Nat} (h : ∀ i : Int, 0 ≤ i → i < n → p i = true → q i = true) (h0 : 0 ≤ x) (h1 : x < n) (hp : p x = false) (hq : q x = true) : cnt p n < cnt q n := by
  have e := zgo (p := p) (q := fun i => if i = x then true else p i) h0 h1 hp (if_pos rfl) fun i hi => if_neg hi
  have := zhd (p := fun i => if i = x then true else p i) (q := q) (n := n) fun i i0 i1 k => by
    by_cases c : i = x
    · rw [c]; exact hq
    · exact h i i0 i1 ((if_neg c).symm.trans k)
  lia
theorem zgn {p q : Int → Bool} {x z : Int} {n : Nat} (x0 : 0 ≤ x) (x1 : x < n) (z0 : 0 ≤ z) (z1 : z < n) (xz : x ≠ z) (px : p x = false) (qx : q x = true) (pz : p z = true) (qz : q z = false) (h : ∀ i, i ≠ x → i ≠ z → q i = p i) : cnt q n = cnt p n := by
  have e1 := zgo (p := p) (q := fun i => if i = x then true else p i) x0 x1 px (if_pos rfl) fun i hi => if_neg hi
  have e2 := zgo (p := q) (q := fun i => if i = x then true else p i) z0 z1 qz ((if_neg (Ne.symm xz)).trans pz) fun i hi => by
    by_cases c : i = x
    · rw [c, qx]; exact if_pos rfl
    · rw [h i c hi]; exact if_neg c
  lia
theorem znS {p q : Int → Bool} {n : Nat} (h : cnt p n < cnt q n) : ∃ i : Int, 0 ≤ i ∧ i < n ∧ q i = true ∧ p i = false := Classical.byContradiction fun no => by
  have := zhd (p := q) (q := p) (n := n) fun i h0 h1 hq => by
    cases e : p i with
    | true => rfl
    | false => exact absurd ⟨i, h0, h1, hq, e⟩ no
  lia
noncomputable def Mg (n : Nat) (E : Int → Int → Prop) (M : Int → Int) : Prop := ∀ i, 0 ≤ M i → (0 ≤ i ∧ i < n) ∧ M (M i) = i ∧ E i (M i)
section
variable {n : Nat} {E : Int → Int → Prop} {M : Int → Int}
noncomputable def cov (N : Int → Int) (n : Nat) : Nat := cnt (fun i => decide (0 ≤ N i)) n
theorem Mg.put {N N1 : Int → Int} {x y z : Int} (hN : Mg n E N) (rx : 0 ≤ x ∧ x < n) (ry : 0 ≤ y ∧ y < n) (e1 : E x y) (e2 : E y x) (v1 : N1 x = y) (v2 : N1 y = x) (v3 : z = x ∨ N1 z < 0) (v4 : ∀ i, i ≠ x → i ≠ y → i ≠ z → N1 i = N i)
    (h : ∀ i, 0 ≤ N i → i ≠ x → i ≠ y → i ≠ z → N i ≠ x ∧ N i ≠ y ∧ N i ≠ z) : Mg n E N1 := fun i hi => by
  by_cases i1 : i = x
  · subst i1; rw [v1, v2]; exact ⟨rx, rfl, e1⟩
  by_cases i2 : i = y
  · subst i2; rw [v2, v1]; exact ⟨ry, rfl, e2⟩
  by_cases i3 : i = z
  · subst i3; rcases v3 with v3 | v3
    · exact absurd v3 i1
    · lia
  · rw [v4 i i1 i2 i3] at hi ⊢
    refine ob16 (hN i hi) ?_
    intro a b c
    refine ob16 (h i hi i1 i2 i3) ?_
    intro j1 j2 j3
    rw [v4 _ j1 j2 j3]
    exact ⟨a, b, c⟩
theorem Mg.cover (hE : ∀ i j, E i j → E j i ∧ i ≠ j) (hM : Mg n E M) : ∀ (k : Nat) {N : Int → Int}, Mg n E N → cov M n < cov N n →
    (n + 1) * n + n < k + (n + 1) * cnt (fun i => decide (0 ≤ M i) && decide (0 ≤ N i)) n + cnt (fun i => decide (0 ≤ M i) && decide (M i = N i)) n →
    ∃ N', Mg n E N' ∧ (∀ i, 0 ≤ M i → 0 ≤ N' i) ∧ ∃ r : Int, (0 ≤ r ∧ r < n) ∧ M r < 0 ∧ 0 ≤ N' r
  | 0, N, hN, hc, hk => by
    have h1 := zix (p := fun i => decide (0 ≤ M i) && decide (0 ≤ N i)) (n := n)
    have h2 := zix (p := fun i => decide (0 ≤ M i) && decide (M i = N i)) (n := n)
    have := Nat.mul_le_mul_left (n + 1) h1
    lia
  | k + 1, N, hN, hc, hk => by
    by_cases all : ∀ i, 0 ≤ M i → 0 ≤ N i
    · refine ob4 (znS hc) ?_
      intro r h0 h1 h2 h3
      exact ⟨N, hN, all, r, ⟨h0, h1⟩, by have := of_decide_eq_false h3; lia, of_decide_eq_true h2⟩
    have ⟨x, hx⟩ : ∃ x, 0 ≤ M x ∧ N x < 0 := Classical.byContradiction fun no => all fun i hi => Classical.byContradiction fun z => no ⟨i, hi, by lia⟩
    refine lift fun gg back => ?_
    refine ob14 hx ?_
    clear hx
    intro hx nx
    refine ob16 (hM x hx) ?_
    intro rx mx ex
    refine ob14 (hE _ _ ex) ?_
    intro ex' xy'
    refine back ?_
    clear back gg
    have my : 0 ≤ M (M x) := by rw [mx]; exact rx.1
    refine ob16 (hM (M x) my) ?_
    intro ry _ _
    have nxi : ∀ i, 0 ≤ N i → N i ≠ x := fun i hi e => by
      have := hN i hi
      rw [e] at this; have := this.1.1; have := this; lia
    have b1 := zix (p := fun i => decide (0 ≤ M i) && decide (M i = N i)) (n := n)
    have nxf : decide (0 ≤ N x) = false := decide_eq_false (by lia)
    by_cases ny : 0 ≤ N (M x)
    · refine ob16 (hN (M x) ny) ?_
      intro _ nz ez
      have zx : N (M x) ≠ x := nxi _ ny
      have zy : N (M x) ≠ M x := fun e => (hE _ _ ez).2 e.symm
      have rz := (hN (N (M x)) (by rw [nz]; exact ry.1)).1
      have nyi : ∀ i, 0 ≤ N i → i ≠ N (M x) → N i ≠ M x := fun i hi k e => k (by rw [← (hN i hi).2.1, e])
      have nzi : ∀ i, 0 ≤ N i → i ≠ M x → N i ≠ N (M x) := fun i hi k e => k (by rw [← (hN i hi).2.1, e, nz])
      let N1 : Int → Int := fun i => if i = x then M x else if i = M x then x else if i = N (M x) then -1 else N i
      have v1 : N1 x = M x := if_pos rfl
      have v2 : N1 (M x) = x := (if_neg (Ne.symm xy')).trans (if_pos rfl)
      have v3 : N1 (N (M x)) = -1 := (if_neg zx).trans ((if_neg zy).trans (if_pos rfl))
      have v4 : ∀ i, i ≠ x → i ≠ M x → i ≠ N (M x) → N1 i = N i := fun i a b c => (if_neg a).trans ((if_neg b).trans (if_neg c))
      have g : Mg n E N1 := hN.put (z := N (M x)) rx ry ex ex' v1 v2 (.inr (by rw [v3]; decide)) v4 fun i hi _ b c => ⟨nxi i hi, nyi i hi c, nzi i hi b⟩
      have sw : ∀ i, i ≠ x → i ≠ N (M x) → decide (0 ≤ N1 i) = decide (0 ≤ N i) := fun i a c => by
        by_cases b : i = M x
        · rw [b, v2, decide_eq_true rx.1, decide_eq_true ny]
        · rw [v4 i a b c]
      have f1 : decide (0 ≤ N1 x) = true := decide_eq_true (by rw [v1]; exact ry.1)
      have f2 : decide (0 ≤ N1 (N (M x))) = false := decide_eq_false (by rw [v3]; decide)
      have f3 : decide (0 ≤ N (N (M x))) = true := decide_eq_true (by rw [nz]; exact ry.1)
      have cv : cov N1 n = cov N n := zgn rx.1 rx.2 rz.1 rz.2 (Ne.symm zx) nxf f1 f3 f2 sw
      have mxt : decide (0 ≤ M x) = true := decide_eq_true hx
      refine Mg.cover hE hM k g (by rw [cv]; exact hc) ?_
      by_cases mz : 0 ≤ M (N (M x))
      · have c1 : cnt (fun i => decide (0 ≤ M i) && decide (0 ≤ N1 i)) n = cnt (fun i => decide (0 ≤ M i) && decide (0 ≤ N i)) n := by
          refine zgn rx.1 rx.2 rz.1 rz.2 (Ne.symm zx) ?_ ?_ ?_ ?_ fun i a c => ?_
          · show (_ && _) = false; rw [nxf, Bool.and_false]
          · show (_ && _) = true; rw [mxt, f1]; rfl
          · show (_ && _) = true; rw [decide_eq_true mz, f3]; rfl
          · show (_ && _) = false; rw [f2, Bool.and_false]
          · show (_ && _) = (_ && _); rw [sw i a c]
        have c2 : cnt (fun i => decide (0 ≤ M i) && decide (M i = N i)) n < cnt (fun i => decide (0 ≤ M i) && decide (M i = N1 i)) n := by
          refine zkt (x := x) (fun i _ _ h => ?_) rx.1 rx.2 ?_ ?_
          · refine ob14 (Bool.and_eq_true_iff.mp h) ?_
            intro a b
            have a := of_decide_eq_true a
            have b := of_decide_eq_true b
            have i1 : i ≠ x := fun e => by rw [e] at b; lia
            have i2 : i ≠ M x := fun e => by rw [e, mx] at b; exact zx b.symm
            have i3 : i ≠ N (M x) := fun e => by
              have := (hM i a).2.1
              rw [b, e, nz, mx] at this; exact zx this.symm
            show (_ && _) = true
            rw [v4 i i1 i2 i3, decide_eq_true a, decide_eq_true b]; rfl
          · show (_ && _) = false; rw [decide_eq_false (by lia : ¬ M x = N x), Bool.and_false]
          · show (_ && _) = true; rw [mxt, v1, decide_eq_true rfl]; rfl
        rw [c1]; lia
      · have c1 : cnt (fun i => decide (0 ≤ M i) && decide (0 ≤ N i)) n < cnt (fun i => decide (0 ≤ M i) && decide (0 ≤ N1 i)) n := by
          refine zkt (x := x) (fun i _ _ h => ?_) rx.1 rx.2 ?_ ?_
          · refine ob14 (Bool.and_eq_true_iff.mp h) ?_
            intro a b
            have i1 : i ≠ x := fun e => by rw [e, nxf] at b; cases b
            have i3 : i ≠ N (M x) := fun e => by rw [e] at a; exact mz (of_decide_eq_true a)
            show (_ && _) = true
            rw [a, sw i i1 i3, b]; rfl
          · show (_ && _) = false; rw [nxf, Bool.and_false]
          · show (_ && _) = true; rw [mxt, f1]; rfl
        have := Nat.mul_le_mul_left (n + 1) c1
        rw [Nat.mul_succ] at this
        lia
    · have nyi : ∀ i, 0 ≤ N i → N i ≠ M x := fun i hi e => by
        have := hN i hi
        rw [e] at this; lia
      let N1 : Int → Int := fun i => if i = x then M x else if i = M x then x else N i
      have v1 : N1 x = M x := if_pos rfl
      have v2 : N1 (M x) = x := (if_neg (Ne.symm xy')).trans (if_pos rfl)
      have v4 : ∀ i, i ≠ x → i ≠ M x → N1 i = N i := fun i a b => (if_neg a).trans (if_neg b)
      have g : Mg n E N1 := hN.put (z := x) rx ry ex ex' v1 v2 (.inl rfl) (fun i a b _ => v4 i a b) fun i hi _ _ _ => ⟨nxi i hi, nyi i hi, nxi i hi⟩
      have le : ∀ i, decide (0 ≤ N i) = true → decide (0 ≤ N1 i) = true := fun i h => by
        by_cases a : i = x
        · rw [a, v1]; exact decide_eq_true ry.1
        by_cases b : i = M x
        · rw [b, v2]; exact decide_eq_true rx.1
        · rw [v4 i a b]; exact h
      refine Mg.cover hE hM k g (Nat.lt_of_lt_of_le hc (zhd fun i _ _ h => le i h)) ?_
      have c1 : cnt (fun i => decide (0 ≤ M i) && decide (0 ≤ N i)) n < cnt (fun i => decide (0 ≤ M i) && decide (0 ≤ N1 i)) n := by
        refine zkt (x := x) (fun i _ _ h => ?_) rx.1 rx.2 ?_ ?_
        · refine ob14 (Bool.and_eq_true_iff.mp h) ?_
          intro a b
          show (_ && _) = true
          rw [a, le i b]; rfl
        · show (_ && _) = false; rw [nxf, Bool.and_false]
        · show (_ && _) = true; rw [decide_eq_true hx, v1, decide_eq_true ry.1]; rfl
      have := Nat.mul_le_mul_left (n + 1) c1
      rw [Nat.mul_succ] at this
      lia
end
end Mine
end
section
namespace Mine
section
variable {n : Int} {E : Int → Int → Prop} {M bk bs : Int → Int} {O : Int → Bool} {r : Int} {dn q : List Int}
noncomputable def Gr (n : Int) (E : Int → Int → Prop) : Prop := ∀ i j, E i j → E j i ∧ i ≠ j ∧ 0 ≤ i ∧ i < n
structure Sg (n : Int) (E : Int → Int → Prop) (M bk bs : Int → Int) (O : Int → Bool) (r : Int) (dn q : List Int) : Prop where
  bl : Bl M bk bs O r
  gr : Gr n E
  mt : ∀ i, 0 ≤ M i → M (M i) = i ∧ E i (M i)
  rr : (0 ≤ r ∧ r < n) ∧ M r < 0
  lab : ∀ v, O v = true → v ≠ r → 0 ≤ M v ∧ 0 ≤ bk (M v)
  adj : ∀ x, 0 ≤ bk x → E x (bk x)
  inn : ∀ x, 0 ≤ bk x → O x = false → 0 ≤ M x ∧ O (M x) = true
  que : ∀ v, O v = true ↔ v ∈ dn ++ q
  nod : (dn ++ q).Nodup
  mkd : ∀ w, O w = true → 0 ≤ bk w → O (M w) = true
noncomputable def Lk (bk bs : Int → Int) (O : Int → Bool) (q : List Int) (p j : Int) : Prop := bs p = bs j ∨ (O j = false ∧ 0 ≤ bk j) ∨ j ∈ q
theorem Sg.rng (g : Sg n E M bk bs O r dn q) {v : Int} (o : O v = true) : 0 ≤ v ∧ v < n := by
  by_cases e : v = r
  · rw [e]; exact g.rr.1
  · have := g.gr _ _ (g.mt v (g.lab v o e).1).2; exact this.2.2
theorem Sg.bsr (g : Sg n E M bk bs O r dn q) {v : Int} (h : 0 ≤ v ∧ v < n) : 0 ≤ bs v ∧ bs v < n := by
  cases o : O v with
  | true => exact g.rng (g.bl.bb v o).1
  | false => rw [g.bl.ib v o]; exact h
theorem Sg.fresh (g : Sg n E M bk bs O r dn q) {j : Int} (jr : j ≠ r) (h : ¬ (0 ≤ M j ∧ 0 ≤ bk (M j))) : O j = false := by
  cases o : O j with
  | false => rfl
  | true => exact absurd (g.lab j o jr) h
theorem Sg.freshM (g : Sg n E M bk bs O r dn q) {j : Int} (b : bk j < 0) (m : 0 ≤ M j) : O (M j) = false := by
  cases o : O (M j) with
  | false => rfl
  | true =>
    have k := g.mt j m
    have nr : M j ≠ r := fun e => by
      have h1 := g.rr.2; rw [← e, k.1] at h1
      have := (g.gr _ _ k.2).2.2.1; lia
    have := (g.lab _ o nr).2
    rw [k.1] at this; lia
theorem Sg.grow (g : Sg n E M bk bs O r dn q) {p j : Int} (op : O p = true) (e : E p j) (oj : O j = false) (b : bk j < 0) (m : 0 ≤ M j) (jr : j ≠ r) (bm : bk (M j) < 0) :
    Sg n E M (fun x => if x = j then p else bk x) bs (fun x => O x || decide (x = M j)) r dn (q ++ [M j]) := by
  have ow := g.freshM b m
  have k := g.mt j m
  have rj := (g.gr _ _ k.2)
  have ho : ∀ x, (O x || decide (x = M j)) = true ↔ O x = true ∨ x = M j := fun x => by rw [Bool.or_eq_true, decide_eq_true_eq]
  refine ⟨g.bl.grow op oj ow k.1 jr (Ne.symm rj.2.1), g.gr, g.mt, g.rr, fun v o n => ?_, fun x hx => ?_, fun x hx o => ?_, fun v => ?_, ?_, fun w o hw => (ho _).mpr ?_⟩
  · rcases (ho v).mp o with o | rfl
    · have h := g.lab v o n
      refine ⟨h.1, ?_⟩
      show 0 ≤ if M v = j then p else bk (M v)
      by_cases c : M v = j
      · rw [if_pos c]; exact (g.rng op).1
      · rw [if_neg c]; exact h.2
    · rw [k.1]
      refine ⟨rj.2.2.1, ?_⟩
      show 0 ≤ if j = j then p else bk j
      rw [if_pos rfl]; exact (g.rng op).1
  · by_cases c : x = j
    · rw [c]
      show E j (if j = j then p else bk j)
      rw [if_pos rfl]; exact (g.gr _ _ e).1
    · have c' : (if x = j then p else bk x) = bk x := if_neg c
      show E x (if x = j then p else bk x)
      rw [c']; exact g.adj x (c' ▸ hx)
  · have no : ¬ (O x = true ∨ x = M j) := fun z => by rw [(ho x).mpr z] at o; cases o
    by_cases c : x = j
    · rw [c]; exact ⟨m, (ho _).mpr (.inr rfl)⟩
    · have c' : (if x = j then p else bk x) = bk x := if_neg c
      have h := g.inn x (c' ▸ hx) (Bool.eq_false_iff.mpr fun z => no (.inl z))
      exact ⟨h.1, (ho _).mpr (.inl h.2)⟩
  · rw [ho v, g.que v, ← List.append_assoc, List.mem_append (s := dn ++ q), List.mem_singleton]
  · rw [← List.append_assoc]
    refine List.nodup_append.mpr ⟨g.nod, List.nodup_cons.mpr ⟨List.not_mem_nil, .nil⟩, fun a ha c hc e => ?_⟩
    rw [List.mem_singleton.mp hc] at e
    rw [← e, (g.que a).mpr ha] at ow; cases ow
  · rcases (ho w).mp o with o | rfl
    · have c : (if w = j then p else bk w) = bk w := if_neg fun z => by rw [z, oj] at o; cases o
      exact .inl (g.mkd w o (c ▸ hw))
    · have c : (if M j = j then p else bk (M j)) = bk (M j) := if_neg (Ne.symm rj.2.1)
      have : 0 ≤ bk (M j) := c ▸ hw
      lia
theorem Lk.grow {p j x y : Int} (h : Lk bk bs O q x y) (hp : 0 ≤ p) : Lk (fun x => if x = j then p else bk x) bs (fun x => O x || decide (x = M j)) (q ++ [M j]) x y := by
  rcases h with h | ⟨o, b⟩ | h
  · exact .inl h
  · by_cases c : y = M j
    · exact .inr (.inr (List.mem_append_right _ (List.mem_singleton.mpr c)))
    · refine .inr (.inl ⟨by show (O y || decide (y = M j)) = false; rw [o, decide_eq_false c]; rfl, ?_⟩)
      show 0 ≤ if y = j then p else bk y
      by_cases d : y = j
      · rw [if_pos d]; exact hp
      · rw [if_neg d]; exact b
  · exact .inr (.inr (List.mem_append_left _ h))
theorem Sg.dead (g : Sg n E M bk bs O r dn []) (lk : ∀ p ∈ dn, ∀ j, E p j → Lk bk bs O [] p j) {N : Int → Int} (hN : ∀ i, 0 ≤ N i → N (N i) = i ∧ E i (N i)) (hc : ∀ i, 0 ≤ M i → 0 ≤ N i) (hr : 0 ≤ N r) : False := by
  have cov : ∀ v, O v = true → 0 ≤ N v := fun v o => by
    by_cases e : v = r
    · rw [e]; exact hr
    · exact hc v (g.lab v o e).1
  refine g.bl.hung (N := N) (dn := dn) (I := fun x => O x = false ∧ 0 ≤ bk x) (List.append_nil dn ▸ g.nod) (fun v => by rw [g.que v, List.append_nil]) (fun x hx => ?_) (fun v o n => ?_) (fun v o => ?_) fun v o => ?_
  · have h := g.inn x hx.2 hx.1
    have k := g.mt x h.1
    refine ⟨hx.1, h.2, k.1, fun e => ?_⟩
    have := g.rr.2
    rw [← e, k.1] at this
    have := (g.gr _ _ k.2).2.2.1; lia
  · exact Ne.symm (g.gr _ _ (g.mt v (g.lab v o n).1).2).2.1
  · rcases lk v (by have := (g.que v).mp o; rwa [List.append_nil] at this) _ (hN v (cov v o)).2 with h | h | h
    · exact .inl h
    · exact .inr h
    · exact absurd h List.not_mem_nil
  · have h := hN v (cov v o)
    exact ⟨h.1, Ne.symm (g.gr _ _ h.2).2.1⟩
end
end Mine
end
section
namespace Mine
section
variable {n : Int} {E : Int → Int → Prop} {M bk bs B bs' : Int → Int} {O O' : Int → Bool} {r one other m x1 x2 : Int} {W1 W2 X1 X2 dn q nw : List Int}
theorem Wk.mkb {v x : Int} {W : List Int} (h : Wk M bk r v W x) : ∀ {f : Int → Int} {c : Int}, W.Nodup → ∀ y ∈ ev W, (y = v ∧ mkb f c W y = c) ∨ ∃ u ∈ ev W, mkb f c W y = M u ∧ bk (M u) = y := by
  induction h with
  | nil => intro f c _ y hy; exact absurd hy List.not_mem_nil
  | @cons v x W n w ih =>
    intro f c nd y hy
    have n1 := List.nodup_cons.mp nd
    rcases List.mem_cons.mp hy with rfl | hy
    · refine .inl ⟨rfl, ?_⟩
      show Mine.mkb _ (M y) W y = c
      rw [zdX fun z => n1.1 (List.mem_cons_of_mem _ (zbg z))]
      exact if_pos rfl
    · refine .inr ?_
      rcases ih (f := fun x => if x = v then c else f x) (c := M v) (List.nodup_cons.mp n1.2).2 y hy with ⟨e, k⟩ | ⟨u, hu, k⟩
      · exact ⟨v, List.mem_cons_self, k, e.symm⟩
      · exact ⟨u, List.mem_cons_of_mem _ hu, k⟩
theorem Rng.eb (R : Rng M bk bs B O r one other m x1 x2 W1 W2 X1 X2) (g : Sg n E M bk bs O r dn q) (e : E one other) {y : Int} (hy : y ∈ ev W1) : E y (B y) := by
  refine ob12 R.f1 ?_
  intro f hf
  rw [hf y hy]
  rcases R.s1.w.mkb (f := f) (c := other) (List.nodup_append.mp (R.s1.nd R.h)).1 y hy with ⟨e1, k⟩ | ⟨u, hu, k, l⟩
  · rw [k, e1]; exact e
  · rw [k]
    have := g.adj (M u) (g.lab u (R.s1.evo R.h hu) (R.s1.w.next hu).1).2
    rw [l] at this
    exact (g.gr _ _ this).1
theorem Rng.c1 (R : Rng M bk bs B O r one other m x1 x2 W1 W2 X1 X2) : Cm bs m W1 W2 one := by
  rcases R.s1.w.hd with e | h
  · exact .inl (e ▸ R.s1.b)
  · exact .inr ⟨one, .inl (zbg h), rfl⟩
structure Shr (bs bs' : Int → Int) (O O' : Int → Bool) (m : Int) (W1 W2 nw : List Int) : Prop where
  h1 : ∀ x, Cm bs m W1 W2 x → bs' x = m
  h2 : ∀ x, ¬ Cm bs m W1 W2 x → bs' x = bs x
  ho : ∀ x, O' x = true ↔ O x = true ∨ Cm bs m W1 W2 x
  hw : ∀ x, x ∈ nw ↔ O x = false ∧ Cm bs m W1 W2 x
  nd : nw.Nodup
theorem Rng.sg (R : Rng M bk bs B O r one other m x1 x2 W1 W2 X1 X2) (g : Sg n E M bk bs O r dn q) (e : E one other) (s : Shr bs bs' O O' m W1 W2 nw) : Sg n E M B bs' O' r dn (q ++ nw) := by
  have eb : ∀ y, y ∈ ev W1 ∨ y ∈ ev W2 → E y (B y) := fun y h => h.elim (R.eb g e) (R.sym.eb g (g.gr _ _ e).1)
  have pos : ∀ y, y ∈ ev W1 ∨ y ∈ ev W2 → 0 ≤ B y := fun y h => (g.gr _ _ ((g.gr _ _ (eb y h)).1)).2.2.1
  refine ⟨R.bl s.h1 s.h2 s.ho, g.gr, g.mt, g.rr, fun v o k => ?_, fun x hx => ?_, fun x hx o => ?_, fun v => ?_, ?_, fun w o hw => (s.ho _).mpr ?_⟩
  · cases ov : O v with
    | true =>
      have h := g.lab v ov k
      refine ⟨h.1, ?_⟩
      by_cases c : M v ∈ ev W1 ∨ M v ∈ ev W2
      · exact pos _ c
      · rw [R.f0 _ (fun z => c (.inl z)) fun z => c (.inr z)]; exact h.2
    | false =>
      obtain ⟨u, hu, rfl, k2, _⟩ := R.inn2 ov (((s.ho v).mp o).resolve_left (by rw [ov]; exact Bool.false_ne_true))
      rw [k2]
      have ou : O u = true := hu.elim (R.s1.evo R.h) (R.s2.evo R.h)
      exact ⟨(g.rng ou).1, pos u hu⟩
  · by_cases c : x ∈ ev W1 ∨ x ∈ ev W2
    · exact eb x c
    · rw [R.f0 _ (fun z => c (.inl z)) fun z => c (.inr z)] at hx ⊢
      exact g.adj x hx
  · have no : ¬ (O x = true ∨ Cm bs m W1 W2 x) := fun z => by rw [(s.ho x).mpr z] at o; cases o
    have ox : O x = false := Bool.eq_false_iff.mpr fun z => no (.inl z)
    have c : ¬ (x ∈ ev W1 ∨ x ∈ ev W2) := fun z => no (.inl (z.elim (R.s1.evo R.h) (R.s2.evo R.h)))
    rw [R.f0 _ (fun z => c (.inl z)) fun z => c (.inr z)] at hx
    have h := g.inn x hx ox
    exact ⟨h.1, (s.ho _).mpr (.inl h.2)⟩
  · rw [s.ho v, ← List.append_assoc, List.mem_append (s := dn ++ q), s.hw v, ← g.que v]
    cases O v with
    | true => exact ⟨fun _ => .inl rfl, fun _ => .inl rfl⟩
    | false => exact ⟨fun z => z.elim (fun z => by cases z) fun z => .inr ⟨rfl, z⟩, fun z => z.elim .inl fun z => .inr z.2⟩
  · rw [← List.append_assoc]
    refine List.nodup_append.mpr ⟨g.nod, s.nd, fun a ha b hb k => ?_⟩
    subst k
    have := (g.que a).mpr ha
    rw [((s.hw a).mp hb).1] at this; cases this
  · by_cases c : w ∈ ev W1 ∨ w ∈ ev W2
    · exact .inr (c.elim (fun z => .inr ⟨M w, .inl (zcz (R.s1.w.next z).2), rfl⟩) fun z => .inr ⟨M w, .inr (zcz (R.s2.w.next z).2), rfl⟩)
    · rw [R.f0 _ (fun z => c (.inl z)) fun z => c (.inr z)] at hw
      refine .inl ?_
      cases ow : O w with
      | true => exact g.mkd w ow hw
      | false => exact (g.inn w hw ow).2
theorem Rng.lk (R : Rng M bk bs B O r one other m x1 x2 W1 W2 X1 X2) (s : Shr bs bs' O O' m W1 W2 nw) {x y : Int} (h : Lk bk bs O q x y) : Lk B bs' O' (q ++ nw) x y := by
  rcases h with h | ⟨o, b⟩ | h
  · refine .inl ?_
    by_cases c : Cm bs m W1 W2 x
    · rw [s.h1 x c, s.h1 y (c.of h.symm)]
    · rw [s.h2 x c, s.h2 y fun z => c (z.of h)]; exact h
  · cases o' : O' y with
    | true => exact .inr (.inr (List.mem_append_right _ ((s.hw y).mpr ⟨o, ((s.ho y).mp o').resolve_left (by rw [o]; exact Bool.false_ne_true)⟩)))
    | false =>
      refine .inr (.inl ⟨o', ?_⟩)
      rw [R.f0 y (fun z => by rw [R.s1.evo R.h z] at o; cases o) fun z => by rw [R.s2.evo R.h z] at o; cases o]
      exact b
  · exact .inr (.inr (List.mem_append_left _ h))
theorem Sg.steps (g : Sg n E M bk bs O r dn q) {v : Int} {L : List Int} (u : Up M bk r v L) : O v = true → L.Nodup → ∀ (k : Nat) a b, L[k]? = some a → L[k + 1]? = some b → E a b ∧ (M a = b ↔ k % 2 = 0) := by
  induction u with
  | root => intro _ _ k a b _ hb; rw [List.getElem?_eq_none (by simp)] at hb; cases hb
  | @step v L nr u ih =>
    intro o nd k a b ha hb
    have h := g.lab v o nr
    have mv := g.mt v h.1
    have n1 := List.nodup_cons.mp nd
    have n2 := List.nodup_cons.mp n1.2
    match k with
    | 0 => cases ha; cases hb; exact ⟨mv.2, fun _ => rfl, fun _ => rfl⟩
    | 1 =>
      cases ha
      have hb : L[0]? = some b := hb
      have e : b = bk (M v) := by
        cases u with
        | root => cases hb; rfl
        | step _ _ => cases hb; rfl
      subst e
      refine ⟨g.adj _ h.2, fun z => ?_, fun z => absurd z (by decide)⟩
      rw [mv.1] at z
      exact absurd (List.mem_cons_of_mem _ (z ▸ List.mem_of_getElem? hb)) n1.1
    | k + 2 =>
      have := ih (g.bl.nx v o nr) n2.2 k a b ha hb
      rw [Nat.add_mod_right]; exact this
theorem Up.len {v : Int} {L : List Int} (u : Up M bk r v L) : L.length % 2 = 1 ∧ L[L.length - 1]? = some r ∧ L[0]? = some v := by
  induction u with
  | root => exact ⟨rfl, rfl, rfl⟩
  | @step v L _ _ ih =>
    have : 0 < L.length := by lia
    refine ⟨by rw [List.length_cons, List.length_cons]; lia, ?_, rfl⟩
    rw [List.length_cons, List.length_cons, show L.length + 1 + 1 - 1 = (L.length - 1) + 1 + 1 by lia]
    exact ih.2.1
end
end Mine
end
section
set_option linter.unusedVariables false
set_option linter.unusedSimpArgs false
namespace Mine
open PySem
section
variable {k : Nat} {σ : Store} {Q : V → Store → Prop} {X : XP}
theorem zdR {a : Addr} {n : Nat} {M : Int → Int} {i : Int} {K : V → Prop} (ha : σ a = some (.list (zbj n M))) (h0 : 0 ≤ i) (h1 : i < n) (h : K (.int (M i))) : idxV (.ref a) (.int i) σ K := zbZ ha h0 (zcF h0 h1) h
theorem zjI {a : Addr} {n : Nat} {M : Int → Int} {i v : Int} {Q : Store → Prop} (ha : σ a = some (.list (zbj n M))) (h0 : 0 ≤ i) (h1 : i < n) (h : Q (σ.upd a (.list (zbj n fun j => if j = i then v else M j)))) : zbJ (.ref a) (.int i) (.int v) σ Q := by
  refine zb6 ha h0 (by rw [zcE]; exact h1) ?_
  rw [zdh h0]; exact h
theorem zib {a w : Addr} {o : AO} (h : (σ.upd a o) w = none) : w ≠ a ∧ σ w = none := by
  by_cases e : w = a
  · subst e; rw [zaR] at h; cases h
  · rw [za7 e] at h; exact ⟨e, h⟩
theorem zmH {l : List Int} {i : Nat} {v : V} (h : (l.map V.int)[i]? = some v) : ∃ j, v = .int j ∧ l[i]? = some j := by
  rw [List.getElem?_map] at h
  refine ob7 (Option.map_eq_some_iff.mp h) ?_
  intro j e e'
  exact ⟨j, e'.symm, e⟩
theorem mem_sortI {l : List Int} {j : Int} : j ∈ zbt l ↔ j ∈ l := (zbV l).mem_iff
theorem zeB {n : Int} {T : List (Int × Int)} {i j : Int} (ht : ∀ p ∈ T, zbi n p) (h : j ∈ nb T i) : (0 ≤ i ∧ i < n) ∧ (0 ≤ j ∧ j < n) ∧ i ≠ j := by
  rcases mem_nb.mp h with h | h <;> have h1 := ht _ h <;> unfold zbi at h1 <;> simp only at h1 <;> lia
theorem zeU {T : List (Int × Int)} {i j : Int} (h : j ∈ nb T i) : i ∈ nb T j := by rw [mem_nb] at h ⊢; exact h.symm
theorem zns {σ0 : Store} {x d r : Addr} {rs : List Addr} {n : Int} {T : List (Int × Int)} {i : Int} {K : V → Prop} {m : Nat} {md : Bool} (h : NetAt σ0 x d r rs n T) (e : Ext σ0 σ) (h0 : 0 ≤ i) (h1 : i < n) (g : ∀ a, σ0 a = some (.list ((zbt (nb T i)).map V.int)) → K (.ref a)) :
    zdl (sem zba zbf m md).fld (.ref x) "rows" σ fun u => idxV u (.int i) σ K := by
  refine ob7 (h.rowAt (i := i.toNat) (by lia)) ?_
  intro a ha ha'
  rw [Int.toNat_of_nonneg h0] at ha'
  have h' := h.ext e
  exact zbE h'.top h'.dic fldN rfl (zbZ h'.rows.top h0 (by rw [List.getElem?_map, ha]; rfl) (g a ha'))
theorem zdc {x d r : Addr} {rs : List Addr} {n : Int} {T : List (Int × Int)} {K : V → Prop} {m : Nat} {md : Bool} (h : NetAt σ x d r rs n T) (g : K (.int n)) : zdl (sem zba zbf m md).fld (.ref x) "size" σ K := zbE h.top h.dic fldS rfl g
theorem zks {chk : Store → Prop} {B : V → Store → (Option V → Store → Prop) → Prop} {n : Int} (M : Int → Int) (hc : chk σ) (hn : n ≤ 1000) (hB : ∀ i : Int, 0 ≤ i → i < n → ∀ K : Option V → Store → Prop, K (some (.int (M i))) σ → B (.int i) σ K)
    (h : ∀ a, σ a = none → Q (.ref a) (σ.upd a (.list (zbj n.toNat M)))) : zcw chk B Q ((upto 0 n 1).map V.int) [] σ :=
  zeh (fun i => some (.int (M i))) hc hn hB fun a ha => by
    have : ((List.range n.toNat).filterMap fun i : Nat => some (V.int (M i))) = zbj n.toNat M := by simp [zbj, List.filterMap_eq_map']
    rw [this]; exact h a ha
noncomputable def zdO (n : Nat) (O : Int → Bool) : List V := zeD n fun i => O i
theorem zkh {a : Addr} {n : Nat} {O : Int → Bool} {i : Int} {K : V → Prop} (ha : σ a = some (.list (zdO n O))) (h0 : 0 ≤ i) (h1 : i < n) (h : K (.bool (O i))) : idxV (.ref a) (.int i) σ K :=
  zbZ ha h0 (zkz (by lia)) (by rw [Int.toNat_of_nonneg h0]; exact h)
theorem zlM {a : Addr} {n : Nat} {O : Int → Bool} {i : Int} {Q : Store → Prop} (ha : σ a = some (.list (zdO n O))) (h0 : 0 ≤ i) (h1 : i < n) (h : Q (σ.upd a (.list (zdO n fun x => O x || decide (x = i))))) : zbJ (.ref a) (.int i) (.bool true) σ Q := by
  refine zb6 ha h0 (by unfold zdO; rw [zky]; exact h1) ?_
  have : (zdO n O).set i.toNat (.bool true) = zdO n fun x => O x || decide (x = i) := by
    unfold zdO
    rw [zkx]
    unfold zeD
    refine List.map_congr_left fun j _ => congrArg V.bool ?_
    show (if j = i.toNat then true else O j) = (O j || decide ((j : Int) = i))
    by_cases e : j = i.toNat
    · rw [if_pos e, decide_eq_true (by lia), Bool.or_true]
    · rw [if_neg e, decide_eq_false (by lia), Bool.or_false]
  rw [this]; exact h
theorem zm0 {chk : Store → Prop} {B : V → Store → (Option V → Store → Prop) → Prop} {n : Int} (O : Int → Bool) (hc : chk σ) (hn : n ≤ 1000) (hB : ∀ i : Int, 0 ≤ i → i < n → ∀ K : Option V → Store → Prop, K (some (.bool (O i))) σ → B (.int i) σ K)
    (h : ∀ a, σ a = none → Q (.ref a) (σ.upd a (.list (zdO n.toNat O)))) : zcw chk B Q ((upto 0 n 1).map V.int) [] σ :=
  zeh (fun i => some (.bool (O i))) hc hn hB fun a ha => by
    have : ((List.range n.toNat).filterMap fun i : Nat => some (V.bool (O i))) = zdO n.toNat O := by simp [zdO, zeD, List.filterMap_eq_map']
    rw [this]; exact h a ha
end
structure Ad where
  sr : Addr
  ds : Addr
  x : Addr
  m : Addr
  b : Addr
  ba : Addr
  o : Addr
  w : Addr
noncomputable def seaF (A : Ad) (root : Int) : List (String × V) := [("ground", .ref A.x), ("mate", .ref A.m), ("root", .int root), ("back", .ref A.b), ("base", .ref A.ba), ("outer", .ref A.o), ("waiting", .ref A.w)]
structure Sa (σ0 σ : Store) (A : Ad) (n root : Int) (bk bs : Int → Int) (O : Int → Bool) (q : List Int) : Prop where
  ext : Ext σ0 σ
  top : σ A.sr = some (.inst "Search" A.ds)
  dic : σ A.ds = some (.ns (seaF A root))
  hb : σ A.b = some (.list (zbj n.toNat bk))
  hs : σ A.ba = some (.list (zbj n.toNat bs))
  ho : σ A.o = some (.list (zdO n.toNat O))
  hw : σ A.w = some (.list (q.map V.int))
  fd : σ0 A.ds = none
  fb : σ0 A.b = none
  fs : σ0 A.ba = none
  fo : σ0 A.o = none
  fw : σ0 A.w = none
  bs_ : A.b ≠ A.ba
  bo : A.b ≠ A.o
  bw : A.b ≠ A.w
  os : A.o ≠ A.ba
  ow : A.o ≠ A.w
  ws : A.w ≠ A.ba
section
variable {k : Nat} {σ σ0 : Store} {Q : V → Store → Prop} {X : XP} {A : Ad} {n root : Int} {bk bs M : Int → Int} {O : Int → Bool} {q : List Int}
theorem sfld {md : Bool} {f : String} (h : zbf "Search" f = true) : (sem zba zbf k md).fld "Search" f := h
theorem Sa.at (h : Sa σ0 σ A n root bk bs O q) {f : String} {v : V} {K : V → Prop} {j : Nat} {md : Bool} (hf : zbf "Search" f = true) (e : (seaF A root).lookup f = some v) (g : K v) : zdl (sem zba zbf j md).fld (.ref A.sr) f σ K :=
  zbE h.top h.dic (sfld hf) e g
theorem Sa.ground (h : Sa σ0 σ A n root bk bs O q) {K : V → Prop} {j : Nat} {md : Bool} (g : K (.ref A.x)) : zdl (sem zba zbf j md).fld (.ref A.sr) "ground" σ K := h.at rfl rfl g
theorem Sa.mate (h : Sa σ0 σ A n root bk bs O q) {K : V → Prop} {j : Nat} {md : Bool} (hm : σ0 A.m = some (.list (zbj n.toNat M))) {i : Int} (h0 : 0 ≤ i ∧ i < n) (g : K (.int (M i))) : zdl (sem zba zbf j md).fld (.ref A.sr) "mate" σ fun u => idxV u (.int i) σ K := h.at rfl rfl (zdR (h.ext _ _ hm) h0.1 (by lia) g)
theorem Sa.rootA (h : Sa σ0 σ A n root bk bs O q) {K : V → Prop} {j : Nat} {md : Bool} (g : K (.int root)) : zdl (sem zba zbf j md).fld (.ref A.sr) "root" σ K := h.at rfl rfl g
theorem Sa.back (h : Sa σ0 σ A n root bk bs O q) {K : V → Prop} {j : Nat} {md : Bool} {i : Int} (h0 : 0 ≤ i ∧ i < n) (g : K (.int (bk i))) : zdl (sem zba zbf j md).fld (.ref A.sr) "back" σ fun u => idxV u (.int i) σ K := h.at rfl rfl (zdR h.hb h0.1 (by lia) g)
theorem Sa.base (h : Sa σ0 σ A n root bk bs O q) {K : V → Prop} {j : Nat} {md : Bool} {i : Int} (h0 : 0 ≤ i ∧ i < n) (g : K (.int (bs i))) : zdl (sem zba zbf j md).fld (.ref A.sr) "base" σ fun u => idxV u (.int i) σ K := h.at rfl rfl (zdR h.hs h0.1 (by lia) g)
theorem Sa.outer (h : Sa σ0 σ A n root bk bs O q) {K : V → Prop} {j : Nat} {md : Bool} (g : K (.ref A.o)) : zdl (sem zba zbf j md).fld (.ref A.sr) "outer" σ K := h.at rfl rfl g
theorem Sa.waiting (h : Sa σ0 σ A n root bk bs O q) {K : V → Prop} {j : Nat} {md : Bool} (g : K (.ref A.w)) : zdl (sem zba zbf j md).fld (.ref A.sr) "waiting" σ K := h.at rfl rfl g
theorem zlD {vs : List V} {c : String} {d : Addr} : AO.list vs ≠ .inst c d := fun e => by cases e
theorem zjp {vs : List V} {fs : List (String × V)} : AO.list vs ≠ .ns fs := fun e => by cases e
theorem Sa.putB (h : Sa σ0 σ A n root bk bs O q) {bk' : Int → Int} : Sa σ0 (σ.upd A.b (.list (zbj n.toNat bk'))) A n root bk' bs O q :=
  ⟨h.ext.upd h.fb, (za7 (zcB h.hb h.top zlD).symm).trans h.top, (za7 (zcB h.hb h.dic zjp).symm).trans h.dic, zaR, (za7 h.bs_.symm).trans h.hs, (za7 h.bo.symm).trans h.ho, (za7 h.bw.symm).trans h.hw, h.fd, h.fb, h.fs, h.fo, h.fw, h.bs_, h.bo, h.bw, h.os, h.ow, h.ws⟩
theorem Sa.putS (h : Sa σ0 σ A n root bk bs O q) {bs' : Int → Int} : Sa σ0 (σ.upd A.ba (.list (zbj n.toNat bs'))) A n root bk bs' O q :=
  ⟨h.ext.upd h.fs, (za7 (zcB h.hs h.top zlD).symm).trans h.top, (za7 (zcB h.hs h.dic zjp).symm).trans h.dic, (za7 h.bs_).trans h.hb, zaR, (za7 h.os).trans h.ho, (za7 h.ws).trans h.hw, h.fd, h.fb, h.fs, h.fo, h.fw, h.bs_, h.bo, h.bw, h.os, h.ow, h.ws⟩
theorem Sa.putO (h : Sa σ0 σ A n root bk bs O q) {O' : Int → Bool} : Sa σ0 (σ.upd A.o (.list (zdO n.toNat O'))) A n root bk bs O' q :=
  ⟨h.ext.upd h.fo, (za7 (zcB h.ho h.top zlD).symm).trans h.top, (za7 (zcB h.ho h.dic zjp).symm).trans h.dic, (za7 h.bo).trans h.hb, (za7 h.os.symm).trans h.hs, zaR, (za7 h.ow.symm).trans h.hw, h.fd, h.fb, h.fs, h.fo, h.fw, h.bs_, h.bo, h.bw, h.os, h.ow, h.ws⟩
theorem Sa.putW (h : Sa σ0 σ A n root bk bs O q) {q' : List Int} : Sa σ0 (σ.upd A.w (.list (q'.map V.int))) A n root bk bs O q' :=
  ⟨h.ext.upd h.fw, (za7 (zcB h.hw h.top zlD).symm).trans h.top, (za7 (zcB h.hw h.dic zjp).symm).trans h.dic, (za7 h.bw).trans h.hb, (za7 h.ws.symm).trans h.hs, (za7 h.ow).trans h.ho, zaR, h.fd, h.fb, h.fs, h.fo, h.fw, h.bs_, h.bo, h.bw, h.os, h.ow, h.ws⟩
theorem Sa.newW (h : Sa σ0 σ A n root bk bs O q) {q' : List Int} {w' : Addr} (hw : σ w' = none) : Sa σ0 ((σ.upd w' (.list (q'.map V.int))).upd A.ds (.ns (seaF { A with w := w' } root))) { A with w := w' } n root bk bs O q' := by
  have nn : ∀ {a : Addr} {u : AO}, σ a = some u → a ≠ w' := fun ha => zbF ha hw
  have li : ∀ {a : Addr} {vs : List V}, σ a = some (.list vs) → a ≠ A.ds := fun ha => zcB ha h.dic zjp
  have keep : ∀ {a : Addr} {vs : List V}, σ a = some (.list vs) → ((σ.upd w' (.list (q'.map V.int))).upd A.ds (.ns (seaF { A with w := w' } root))) a = some (.list vs) := fun ha => (za7 (li ha)).trans ((za7 (nn ha)).trans ha)
  exact ⟨(h.ext.upd (h.ext.none hw)).upd h.fd, (za7 (zcB h.top h.dic fun e => by cases e)).trans ((za7 (nn h.top)).trans h.top), zaR, keep h.hb, keep h.hs, keep h.ho, (za7 (nn h.dic).symm).trans zaR, h.fd, h.fb, h.fs, h.fo, h.ext.none hw, h.bs_, h.bo, nn h.hb, h.os, nn h.ho, (nn h.hs).symm⟩
theorem Sa.new (h : Sa σ0 σ A n root bk bs O q) {a : Addr} {u : AO} (ha : σ a = none) : Sa σ0 (σ.upd a u) A n root bk bs O q := by
  have nn : ∀ {a' : Addr} {u : AO}, σ a' = some u → a' ≠ a := fun ha' => zbF ha' ha
  exact ⟨h.ext.upd (h.ext.none ha), (za7 (nn h.top)).trans h.top, (za7 (nn h.dic)).trans h.dic, (za7 (nn h.hb)).trans h.hb, (za7 (nn h.hs)).trans h.hs, (za7 (nn h.ho)).trans h.ho, (za7 (nn h.hw)).trans h.hw, h.fd, h.fb, h.fs, h.fo, h.fw, h.bs_, h.bo, h.bw, h.os, h.ow, h.ws⟩
end
end Mine
end
section
set_option linter.unusedVariables false
set_option linter.unusedSimpArgs false
namespace Mine
open PySem
section
variable {k : Nat} {σ σ0 : Store} {Q : V → Store → Prop} {X : XP} {sr ds x m : Addr} {n root : Int} {d r : Addr} {rs : List Addr} {T : List (Int × Int)}
structure Sb (σ0 σ : Store) (sr ds : Addr) (fs : List (String × V)) : Prop where
  ext : Ext σ0 σ
  top : σ sr = some (.inst "Search" ds)
  dic : σ ds = some (.ns fs)
  fd : σ0 ds = none
theorem Sb.set {fs : List (String × V)} (h : Sb σ0 σ sr ds fs) {f : String} {v : V} {j : Nat} {md : Bool} {K : Store → Prop} (hf : zbf "Search" f = true) (hl : fs.length < 100)
    (g : ∀ σ', Sb σ0 σ' sr ds (putF f v fs) → (∀ a vs, σ a = some (.list vs) → σ' a = some (.list vs)) → K σ') : zd5 (sem zba zbf j md).fld (.ref sr) f v σ K :=
  zbl h.top h.dic ⟨⟨sfld hf, hl⟩, g _ ⟨h.ext.upd h.fd, (za7 (zcB h.top h.dic fun e => by cases e)).trans h.top, zaR, h.fd⟩ fun a vs ha => (za7 (zcB ha h.dic zjp)).trans ha⟩
theorem Sb.new {fs : List (String × V)} (h : Sb σ0 σ sr ds fs) {a : Addr} {u : AO} (ha : σ a = none) : Sb σ0 (σ.upd a u) sr ds fs :=
  ⟨h.ext.upd (h.ext.none ha), (za7 (zbF h.top ha)).trans h.top, (za7 (zbF h.dic ha)).trans h.dic, h.fd⟩
theorem zni : (zba "Search" "__init__").isSome = true := rfl
theorem zk5 (hx : NetAt σ0 x d r rs n T) (h : Sb σ0 σ sr ds [])
    (hQ : ∀ σ' A, Sa σ0 σ' A n root (fun _ => -1) (fun i => i) (fun i => decide (i = root)) [root] → A.sr = sr → A.ds = ds → A.x = x → A.m = m → Q .none σ') : (sem zba zbf (k + 1) true).run "Search" "__init__" [.ref sr, .ref x, .ref m, .int root] σ Q X := by
  have hlo := hx.lo
  have hhi := hx.hi
  refine zbe (F := zc7) rfl ⟨rfl, ?_⟩
  simp only [zc7, zay, zak, zaF, zaj, zad, zac, zaW, zap, zaX, zaE, zaY, zaG, E_tt, E_ff, za2, za0, zaZ, zaL, za4, za1, zaU, zaV, zaC, zaD, zaM, zaI, zaH, E_m1, zaN, za3, zan, zaJ, zam, zao, E_b1, zaK, za5, zaP, zas, zar, zaq, zaB, zal, zaT, zav, I_r1, I_r2, I_r3, zaS, zau, zat, zaO, zag, zai, zah, zax, zaw, zaA, zaz, List.map_cons, List.map_nil, List.length_cons, List.length_nil, List.cons_append, List.nil_append, List.replicate, Nat.reduceAdd, Nat.reduceSub, Loc.get, zgz, zgs, zjs, zaa, tgOk, onT, zaf, true_and, zae, zss, zsz, zab]
  refine h.set rfl (Nat.le_of_ble_eq_true rfl) fun σ1 h1 _ => ?_
  simp only [zdu, zay, zak, zaF, zaj, zad, zac, zaW, zap, zaX, zaE, zaY, zaG, E_tt, E_ff, za2, za0, zaZ, zaL, za4, za1, zaU, zaV, zaC, zaD, zaM, zaI, zaH, E_m1, zaN, za3, zan, zaJ, zam, zao, E_b1, zaK, za5, zaP, zas, zar, zaq, zaB, zal, zaT, zav, I_r1, I_r2, I_r3, zaS, zau, zat, zaO, zag, zai, zah, zax, zaw, zaA, zaz, Loc.get, zgz, zgs, zjs, zaa, tgOk, onT, zaf, true_and, zae, zss, zsz, zab]
  refine h1.set rfl (Nat.le_of_ble_eq_true rfl) fun σ2 h2 _ => ?_
  simp only [zdv, zay, zak, zaF, zaj, zad, zac, zaW, zap, zaX, zaE, zaY, zaG, E_tt, E_ff, za2, za0, zaZ, zaL, za4, za1, zaU, zaV, zaC, zaD, zaM, zaI, zaH, E_m1, zaN, za3, zan, zaJ, zam, zao, E_b1, zaK, za5, zaP, zas, zar, zaq, zaB, zal, zaT, zav, I_r1, I_r2, I_r3, zaS, zau, zat, zaO, zag, zai, zah, zax, zaw, zaA, zaz, Loc.get, zgz, zgs, zjs, zaa, tgOk, onT, zaf, true_and, zae, zss, zsz, zab]
  refine h2.set rfl (Nat.le_of_ble_eq_true rfl) fun σ3 h3 _ => ?_
  simp only [zdw, zay, zak, zaF, zaj, zad, zac, zaW, zap, zaX, zaE, zaY, zaG, E_tt, E_ff, za2, za0, zaZ, zaL, za4, za1, zaU, zaV, zaC, zaD, zaM, zaI, zaH, E_m1, zaN, za3, zan, zaJ, zam, zao, E_b1, zaK, za5, zaP, zas, zar, zaq, zaB, zal, zaT, zav, I_r1, I_r2, I_r3, zaS, zau, zat, zaO, zag, zai, zah, zax, zaw, zaA, zaz, Loc.get, zgz, zgs, zjs, zaa, tgOk, onT, zaf, true_and, zae, zss, zsz, zab]
  refine zdc (hx.ext h3.ext) ⟨by lia, zks (fun _ => -1) trivial (by lia) (fun i h0 h1 K hK => by simpa only [if_true, zay, zak, zaF, zaj, zad, zac, zaW, zap, zaX, zaE, zaY, zaG, E_tt, E_ff, za2, za0, zaZ, zaL, za4, za1, zaU, zaV, zaC, zaD, zaM, zaI, zaH, E_m1, zaN, za3, zan, zaJ, zam, zao, E_b1, zaK, za5, zaP, zas, zar, zaq, zaB, zal, zaT, zav, I_r1, I_r2, I_r3, zaS, zau, zat, zaO, zag, zai, zah, zax, zaw, zaA, zaz, Loc.get, zgz, zgs, zjs, zaa, tgOk, onT, zaf, true_and, zae, zss, zsz, zab] using hK) fun b hb => ?_⟩
  refine (h3.new hb).set rfl (Nat.le_of_ble_eq_true rfl) fun σ4 h4 k4 => ?_
  have b4 := k4 b _ zaR
  simp only [zdx, zay, zak, zaF, zaj, zad, zac, zaW, zap, zaX, zaE, zaY, zaG, E_tt, E_ff, za2, za0, zaZ, zaL, za4, za1, zaU, zaV, zaC, zaD, zaM, zaI, zaH, E_m1, zaN, za3, zan, zaJ, zam, zao, E_b1, zaK, za5, zaP, zas, zar, zaq, zaB, zal, zaT, zav, I_r1, I_r2, I_r3, zaS, zau, zat, zaO, zag, zai, zah, zax, zaw, zaA, zaz, Loc.get, zgz, zgs, zjs, zaa, tgOk, onT, zaf, true_and, zae, zss, zsz, zab]
  refine zdc (hx.ext h4.ext) ⟨by lia, zks (fun i => i) trivial (by lia) (fun i h0 h1 K hK => by simpa only [if_true, zay, zak, zaF, zaj, zad, zac, zaW, zap, zaX, zaE, zaY, zaG, E_tt, E_ff, za2, za0, zaZ, zaL, za4, za1, zaU, zaV, zaC, zaD, zaM, zaI, zaH, E_m1, zaN, za3, zan, zaJ, zam, zao, E_b1, zaK, za5, zaP, zas, zar, zaq, zaB, zal, zaT, zav, I_r1, I_r2, I_r3, zaS, zau, zat, zaO, zag, zai, zah, zax, zaw, zaA, zaz, Loc.get, zgz, zgs, zjs, zaa, tgOk, onT, zaf, true_and, zae, zss, zsz, zab] using hK) fun ba hba => ?_⟩
  have n1 : b ≠ ba := zbF b4 hba
  refine (h4.new hba).set rfl (Nat.le_of_ble_eq_true rfl) fun σ5 h5 k5 => ?_
  have b5 := k5 b _ ((za7 n1).trans b4)
  have c5 := k5 ba _ zaR
  simp only [zdy, zay, zak, zaF, zaj, zad, zac, zaW, zap, zaX, zaE, zaY, zaG, E_tt, E_ff, za2, za0, zaZ, zaL, za4, za1, zaU, zaV, zaC, zaD, zaM, zaI, zaH, E_m1, zaN, za3, zan, zaJ, zam, zao, E_b1, zaK, za5, zaP, zas, zar, zaq, zaB, zal, zaT, zav, I_r1, I_r2, I_r3, zaS, zau, zat, zaO, zag, zai, zah, zax, zaw, zaA, zaz, Loc.get, zgz, zgs, zjs, zaa, tgOk, onT, zaf, true_and, zae, zss, zsz, zab]
  refine zdc (hx.ext h5.ext) ⟨by lia, zm0 (fun i => decide (i = root)) trivial (by lia) (fun i h0 h1 K hK => by simp only [if_true, zay, zak, zaF, zaj, zad, zac, zaW, zap, zaX, zaE, zaY, zaG, E_tt, E_ff, za2, za0, zaZ, zaL, za4, za1, zaU, zaV, zaC, zaD, zaM, zaI, zaH, E_m1, zaN, za3, zan, zaJ, zam, zao, E_b1, zaK, za5, zaP, zas, zar, zaq, zaB, zal, zaT, zav, I_r1, I_r2, I_r3, zaS, zau, zat, zaO, zag, zai, zah, zax, zaw, zaA, zaz, Loc.get, zgz, zgs, zjs, zaa, tgOk, onT, zaf, true_and, zae, zss, zsz, zab, zm4]; exact hK) fun o ho => ?_⟩
  have n2 : b ≠ o := zbF b5 ho
  have n3 : ba ≠ o := zbF c5 ho
  refine (h5.new ho).set rfl (Nat.le_of_ble_eq_true rfl) fun σ6 h6 k6 => ?_
  have b6 := k6 b _ ((za7 n2).trans b5)
  have c6 := k6 ba _ ((za7 n3).trans c5)
  have d6 := k6 o _ zaR
  simp only [zdz, zay, zak, zaF, zaj, zad, zac, zaW, zap, zaX, zaE, zaY, zaG, E_tt, E_ff, za2, za0, zaZ, zaL, za4, za1, zaU, zaV, zaC, zaD, zaM, zaI, zaH, E_m1, zaN, za3, zan, zaJ, zam, zao, E_b1, zaK, za5, zaP, zas, zar, zaq, zaB, zal, zaT, zav, I_r1, I_r2, I_r3, zaS, zau, zat, zaO, zag, zai, zah, zax, zaw, zaA, zaz, Loc.get, zgz, zgs, zjs, zaa, tgOk, onT, zaf, true_and, zae, zss, zsz, zab]
  refine ⟨Nat.le_of_ble_eq_true rfl, fun w hw => ?_⟩
  have n4 : b ≠ w := zbF b6 hw
  have n5 : ba ≠ w := zbF c6 hw
  have n6 : o ≠ w := zbF d6 hw
  refine (h6.new hw).set rfl (Nat.le_of_ble_eq_true rfl) fun σ7 h7 k7 => ?_
  exact hQ σ7 ⟨sr, ds, x, m, b, ba, o, w⟩ ⟨h7.ext, h7.top, h7.dic, k7 b _ ((za7 n4).trans b6), k7 ba _ ((za7 n5).trans c6), k7 o _ ((za7 n6).trans d6), k7 w _ zaR, h7.fd, h3.ext.none hb, h4.ext.none hba, h5.ext.none ho, h6.ext.none hw, n1, n2, n4, n3.symm, n6, n5.symm⟩ rfl rfl rfl rfl
end
end Mine
end
section
set_option linter.unusedVariables false
set_option linter.unusedSimpArgs false
namespace Mine
open PySem
section
variable {k : Nat} {σ σ0 : Store} {Q : V → Store → Prop} {X : XP} {A : Ad} {n root : Int} {bk bs M : Int → Int} {O : Int → Bool} {q dn : List Int} {T : List (Int × Int)} {one other : Int}
noncomputable def Nb (T : List (Int × Int)) (i j : Int) : Prop := j ∈ nb T i
theorem Sg.mr (g : Sg n (Nb T) M bk bs O root dn q) {v : Int} (h : 0 ≤ M v) : 0 ≤ M v ∧ M v < n := (g.gr _ _ (g.gr _ _ (g.mt v h).2).1).2.2
theorem Sg.pr (g : Sg n (Nb T) M bk bs O root dn q) {v : Int} {L : List Int} (u : Up M bk root v L) (o : O v = true) : ∀ x ∈ L, 0 ≤ x ∧ x < n := fun x hx => by
  rcases zcC hx with h | h
  · exact g.rng (g.bl.evO u o x h)
  · refine ob2 (u.odd h) ?_
    intro c hc nc ee181
    subst ee181
    exact g.mr (g.lab c (g.bl.evO u o c hc) nc).1
theorem Sg.pl (g : Sg n (Nb T) M bk bs O root dn q) (hn : n ≤ 40) {v : Int} {L : List Int} (u : Up M bk root v L) (o : O v = true) : L.length ≤ 40 :=
  zcA (m := 40) (g.bl.nd o u) fun i hi => by have := g.pr u o i hi; lia
theorem Sg.bn (g : Sg n (Nb T) M bk bs O root dn q) {b : Int} (o : O b = true) (m : 0 ≤ M b) : b ≠ root ∧ (0 ≤ M b ∧ M b < n) ∧ (0 ≤ bk (M b) ∧ bk (M b) < n) := by
  have nr : b ≠ root := fun e => by have := g.rr.2; rw [← e] at this; lia
  exact ⟨nr, g.mr m, g.rng (g.bl.nx b o nr)⟩
theorem zgY (h : Sa σ0 σ A n root bk bs O q) (hm : σ0 A.m = some (.list (zbj n.toNat M))) (g : Sg n (Nb T) M bk bs O root dn q) (hn : n ≤ 40) (o1 : O one = true) (o2 : O other = true)
    (hQ : ∀ s (D : List Int) m W1 x1 X1 W2 x2 X2, σ s = none → Side M bk bs O root one m W1 x1 X1 → Side M bk bs O root other m W2 x2 X2 → (∀ y ∈ W1, ∀ z ∈ W2, bs y ≠ bs z) → Q (.int m) (σ.upd s (.dict (D.map V.int)))) :
    (sem zba zbf (k + 1) true).run "Search" "meeting" [.ref A.sr, .int one, .int other] σ Q X := by
  refine zbe (F := zb2) rfl ⟨rfl, ?_⟩
  have step : ∀ {σ' : Store} {b : Int} {K : V → Prop} {j : Nat}, Sa σ0 σ' A n root bk bs O q → O b = true → 0 ≤ M b → K (.int (bs (bk (M b)))) →
      zdl (sem zba zbf j true).fld (.ref A.sr) "base" σ' fun u => zdl (sem zba zbf j true).fld (.ref A.sr) "back" σ' fun u2 => zdl (sem zba zbf j true).fld (.ref A.sr) "mate" σ' fun u3 => idxV u3 (.int b) σ' fun v => idxV u2 v σ' fun v => idxV u v σ' K := fun h' ob hb hK => by
    have r1 := g.rng ob
    refine ob16 (g.bn ob hb) ?_
    intro _ r2 r3
    exact h'.at rfl rfl (h'.at rfl rfl (h'.at rfl rfl (zdR (h'.ext _ _ hm) r1.1 (by lia) (zdR h'.hb r2.1 (by lia) (zdR h'.hs r3.1 (by lia) hK)))))
  simp only [zb2, zay, zak, zaF, zaj, zad, zac, zaW, zap, zaX, zaE, zaY, zaG, E_tt, E_ff, za2, za0, zaZ, zaL, za4, za1, zaU, zaV, zaC, zaD, zaM, zaI, zaH, E_m1, zaN, za3, zan, zaJ, zam, zao, E_b1, zaK, za5, zaP, zas, zar, zaq, zaB, zal, zaT, zav, I_r1, I_r2, I_r3, zaS, zau, zat, zaO, zag, zai, zah, zax, zaw, zaA, zaz, List.map_cons, List.map_nil, List.length_cons, List.length_nil, List.cons_append, List.nil_append, List.replicate, Nat.reduceAdd, Nat.reduceSub, Loc.get, zgz, zgs, zjs, zaa, tgOk, onT, zaf, true_and, zae, zss, zsz, zab]
  intro s hs
  have h1 : ∀ {D : List V}, Sa σ0 (σ.upd s (.dict D)) A n root bk bs O q := fun {D} => h.new hs
  simp only [zcl, zay, zak, zaF, zaj, zad, zac, zaW, zap, zaX, zaE, zaY, zaG, E_tt, E_ff, za2, za0, zaZ, zaL, za4, za1, zaU, zaV, zaC, zaD, zaM, zaI, zaH, E_m1, zaN, za3, zan, zaJ, zam, zao, E_b1, zaK, za5, zaP, zas, zar, zaq, zaB, zal, zaT, zav, I_r1, I_r2, I_r3, zaS, zau, zat, zaO, zag, zai, zah, zax, zaw, zaA, zaz, Loc.get, zgz, zgs, zjs, zaa, tgOk, onT, zaf, true_and, zae, zss, zsz, zab]
  refine h1.base (g.rng o1) ?_
  simp only [zcm, zay, zak, zaF, zaj, zad, zac, zaW, zap, zaX, zaE, zaY, zaG, E_tt, E_ff, za2, za0, zaZ, zaL, za4, za1, zaU, zaV, zaC, zaD, zaM, zaI, zaH, E_m1, zaN, za3, zan, zaJ, zam, zao, E_b1, zaK, za5, zaP, zas, zar, zaq, zaB, zal, zaT, zav, I_r1, I_r2, I_r3, zaS, zau, zat, zaO, zag, zai, zah, zax, zaw, zaA, zaz, Loc.get, zgz, zgs, zjs, zaa, tgOk, onT, zaf, true_and, zae, zss, zsz, zab]
  refine zdd (D := []) zaR (by decide) ?_
  rw [if_neg List.not_mem_nil, zb8]
  simp only [zcn, zay, zak, zaF, zaj, zad, zac, zaW, zap, zaX, zaE, zaY, zaG, E_tt, E_ff, za2, za0, zaZ, zaL, za4, za1, zaU, zaV, zaC, zaD, zaM, zaI, zaH, E_m1, zaN, za3, zan, zaJ, zam, zao, E_b1, zaK, za5, zaP, zas, zar, zaq, zaB, zal, zaT, zav, I_r1, I_r2, I_r3, zaS, zau, zat, zaO, zag, zai, zah, zax, zaw, zaA, zaz, Loc.get, zgz, zgs, zjs, zaa, tgOk, onT, zaf, true_and, zae, zss, zsz, zab]
  refine zb5 (fun t ρ σ' => ∃ seen P b Y, Sn M bk bs root one seen P b Y ∧ O b = true ∧ Y.length + t ≤ 40 ∧ seen.length ≤ t + 1 ∧ σ' = σ.upd s (.dict (seen.map V.int)) ∧ ρ = [some (.ref A.sr), some (.int one), some (.int other), some (.ref s), some (.int b)]) 40 ?_ ?_ ?_
  · refine ob18 (Sn.init g.bl o1) ?_
    intro P Y sn
    exact ⟨_, P, _, Y, sn, (g.bl.bb one o1).1, by have := g.pl hn sn.u (g.bl.bb one o1).1; lia, Nat.le_refl _, rfl, rfl⟩
  · intro t ρ σ' zz53
    refine ob60 zz53 ?_
    clear zz53
    intro seen P b Y sn ob l1 l2 ee182
    subst ee182
    intro ee183
    subst ee183
    lia
  · intro t ρ σ' K zz54
    refine ob60 zz54 ?_
    clear zz54
    intro seen P b Y sn ob l1 l2 ee184
    subst ee184
    intro ee185
    subst ee185
    intro hK
    simp only [Loc.get, zgz, zgs, zjs, zaa, tgOk, onT, zaf, true_and, zae, zss, zsz, zab]
    refine h1.mate hm (g.rng ob) (zaQ (a := decide (0 ≤ M b)) rfl ?_)
    show if decide (0 ≤ M b) = true then _ else _
    refine zcj (fun c => ?_) fun c => ?_
    · have hb := of_decide_eq_true c
      refine ob16 (g.bn ob hb) ?_
      intro nr _ _
      simp only [zct, zay, zak, zaF, zaj, zad, zac, zaW, zap, zaX, zaE, zaY, zaG, E_tt, E_ff, za2, za0, zaZ, zaL, za4, za1, zaU, zaV, zaC, zaD, zaM, zaI, zaH, E_m1, zaN, za3, zan, zaJ, zam, zao, E_b1, zaK, za5, zaP, zas, zar, zaq, zaB, zal, zaT, zav, I_r1, I_r2, I_r3, zaS, zau, zat, zaO, zag, zai, zah, zax, zaw, zaA, zaz, Loc.get, zgz, zgs, zjs, zaa, tgOk, onT, zaf, true_and, zae, zss, zsz, zab]
      refine step h1 ob hb ?_
      simp only [zcr, zay, zak, zaF, zaj, zad, zac, zaW, zap, zaX, zaE, zaY, zaG, E_tt, E_ff, za2, za0, zaZ, zaL, za4, za1, zaU, zaV, zaC, zaD, zaM, zaI, zaH, E_m1, zaN, za3, zan, zaJ, zam, zao, E_b1, zaK, za5, zaP, zas, zar, zaq, zaB, zal, zaT, zav, I_r1, I_r2, I_r3, zaS, zau, zat, zaO, zag, zai, zah, zax, zaw, zaA, zaz, Loc.get, zgz, zgs, zjs, zaa, tgOk, onT, zaf, true_and, zae, zss, zsz, zab]
      refine zdd zaR (by unfold zbb; lia) ?_
      rw [zb8]
      obtain ⟨P', Y', sn', ly⟩ := sn.next (seen' := if bs (bk (M b)) ∈ seen then seen else seen ++ [bs (bk (M b))]) g.bl o1 nr fun c => by
        split
        · rename_i z; exact ⟨.inl, fun y => y.elim id fun e => e ▸ z⟩
        · rw [List.mem_append, List.mem_singleton]
      refine hK _ _ ⟨_, P', _, Y', sn', (g.bl.next ob nr).1, by lia, ?_, rfl, rfl⟩
      split
      · lia
      · rw [List.length_append, List.length_singleton]; lia
    · have er : b = root := Classical.byContradiction fun z => c (decide_eq_true (g.lab b ob z).1)
      subst er
      have se := sn.end
      have u1 := sn.w.up sn.u
      have rs := se.root u1 g.bl.bsr
      have sO : ∀ c ∈ seen, O c = true := fun c hc => g.bl.evO u1 o1 c ((se.on c hc).2 u1)
      simp only [zco, zay, zak, zaF, zaj, zad, zac, zaW, zap, zaX, zaE, zaY, zaG, E_tt, E_ff, za2, za0, zaZ, zaL, za4, za1, zaU, zaV, zaC, zaD, zaM, zaI, zaH, E_m1, zaN, za3, zan, zaJ, zam, zao, E_b1, zaK, za5, zaP, zas, zar, zaq, zaB, zal, zaT, zav, I_r1, I_r2, I_r3, zaS, zau, zat, zaO, zag, zai, zah, zax, zaw, zaA, zaz, Loc.get, zgz, zgs, zjs, zaa, tgOk, onT, zaf, true_and, zae, zss, zsz, zab]
      refine h1.base (g.rng o2) ?_
      simp only [zcp, zay, zak, zaF, zaj, zad, zac, zaW, zap, zaX, zaE, zaY, zaG, E_tt, E_ff, za2, za0, zaZ, zaL, za4, za1, zaU, zaV, zaC, zaD, zaM, zaI, zaH, E_m1, zaN, za3, zan, zaJ, zam, zao, E_b1, zaK, za5, zaP, zas, zar, zaq, zaB, zal, zaT, zav, I_r1, I_r2, I_r3, zaS, zau, zat, zaO, zag, zai, zah, zax, zaw, zaA, zaz, Loc.get, zgz, zgs, zjs, zaa, tgOk, onT, zaf, true_and, zae, zss, zsz, zab]
      refine ob12 (g.bl.upL o2) ?_
      intro L2 u2
      refine zb5 (fun t ρ σ' => ∃ W x Y, Met M bk bs O b other seen W x Y ∧ Y.length + t ≤ 40 ∧ σ' = σ.upd s (.dict (seen.map V.int)) ∧ ρ = [some (.ref A.sr), some (.int one), some (.int other), some (.ref s), some (.int (bs x))]) 40
        ⟨[], other, L2, ⟨.nil, u2, fun y hy => absurd hy List.not_mem_nil⟩, by have := g.pl hn u2 o2; lia, rfl, rfl⟩ ?_ ?_
      · intro t ρ σ' zz55
        refine ob11 zz55 ?_
        clear zz55
        intro W x Y mt l ee186
        subst ee186
        intro ee187
        subst ee187
        lia
      · intro t ρ σ' K zz56
        refine ob11 zz56 ?_
        clear zz56
        intro W x Y mt l ee188
        subst ee188
        intro ee189
        subst ee189
        intro hK
        simp only [Loc.get, zgz, zgs, zjs, zaa, tgOk, onT, zaf, true_and, zae, zss, zsz, zab]
        rw [zb7, zhS zaR]
        show if (!decide (bs x ∈ seen)) = true then _ else _
        have ox : O x = true := g.bl.evO (mt.w.up mt.u) o2 x (by rw [mt.w.evA]; exact List.mem_append_right _ mt.u.head)
        by_cases c : bs x ∈ seen
        · rw [decide_eq_true c]
          refine zj2 (c := (!true) = true) Bool.false_ne_true ?_
          simp only [zcq, zay, zak, zaF, zaj, zad, zac, zaW, zap, zaX, zaE, zaY, zaG, E_tt, E_ff, za2, za0, zaZ, zaL, za4, za1, zaU, zaV, zaC, zaD, zaM, zaI, zaH, E_m1, zaN, za3, zan, zaJ, zam, zao, E_b1, zaK, za5, zaP, zas, zar, zaq, zaB, zal, zaT, zav, I_r1, I_r2, I_r3, zaS, zau, zat, zaO, zag, zai, zah, zax, zaw, zaA, zaz, Loc.get, zgz, zgs, zjs, zaa, tgOk, onT, zaf, true_and, zae, zss, zsz, zab]
          refine ob6 (g.bl.sides o1 o2 se mt c) ?_
          intro W1 x1 X1 s1 s2 dj
          exact hQ s seen _ W1 x1 X1 W x Y hs s1 s2 dj
        · rw [decide_eq_false c]
          refine zeZ (c := (!false) = true) rfl ?_
          have nr : bs x ≠ b := fun e => c (e ▸ rs)
          have ob2 := (g.bl.bb x ox).1
          simp only [zcs, zay, zak, zaF, zaj, zad, zac, zaW, zap, zaX, zaE, zaY, zaG, E_tt, E_ff, za2, za0, zaZ, zaL, za4, za1, zaU, zaV, zaC, zaD, zaM, zaI, zaH, E_m1, zaN, za3, zan, zaJ, zam, zao, E_b1, zaK, za5, zaP, zas, zar, zaq, zaB, zal, zaT, zav, I_r1, I_r2, I_r3, zaS, zau, zat, zaO, zag, zai, zah, zax, zaw, zaA, zaz, Loc.get, zgz, zgs, zjs, zaa, tgOk, onT, zaf, true_and, zae, zss, zsz, zab]
          refine step h1 ob2 (g.lab _ ob2 nr).1 ?_
          refine ob17 (mt.next g.bl o2 sO c nr) ?_
          intro W' Y' mt' l'
          exact hK _ _ ⟨W', _, Y', mt', by lia, rfl, rfl⟩
end
end Mine
end
section
set_option linter.unusedVariables false
set_option linter.unusedSimpArgs false
namespace Mine
open PySem
section
variable {k : Nat} {σ σ0 : Store} {Q : V → Store → Prop} {X : XP} {A : Ad} {n root : Int} {bk bs M : Int → Int} {O : Int → Bool} {q dn : List Int} {T : List (Int × Int)} {one other : Int}
theorem zom {vs ks : List V} : AO.list vs ≠ .dict ks := fun e => by cases e
theorem Sa.dict (h : Sa σ0 σ A n root bk bs O q) {a : Addr} {D D' : List V} (f : σ0 a = none) (ha : σ a = some (.dict D)) : Sa σ0 (σ.upd a (.dict D')) A n root bk bs O q := by
  have li : ∀ {b : Addr} {vs : List V}, σ b = some (.list vs) → (σ.upd a (.dict D')) b = some (.list vs) := fun hb => (za7 (zcB hb ha zom)).trans hb
  exact ⟨h.ext.upd f, (za7 (zcB h.top ha fun e => by cases e)).trans h.top, (za7 (zcB h.dic ha fun e => by cases e)).trans h.dic, li h.hb, li h.hs, li h.ho, li h.hw, h.fd, h.fb, h.fs, h.fo, h.fw, h.bs_, h.bo, h.bw, h.os, h.ow, h.ws⟩
theorem zeY {v m c0 x : Int} {W0 ring0 : List Int} {a : Addr} (h : Sa σ0 σ A n root bk bs O q) (hm : σ0 A.m = some (.list (zbj n.toNat M))) (w : Wk M bk root v W0 x) (bx : bs x = m) (nm : ∀ y ∈ W0, bs y ≠ m) (nd : W0.Nodup) (hl : W0.length ≤ 40)
    (rx : 0 ≤ x ∧ x < n) (re : ∀ y ∈ ev W0, (0 ≤ y ∧ y < n) ∧ (0 ≤ M y ∧ M y < n)) (fa : σ0 a = none) (ha : σ a = some (.dict (ring0.map V.int))) (lr : ring0.length ≤ 1000)
    (hQ : ∀ σ' f (ring : List Int), Sa σ0 σ' A n root f bs O q → (∀ y, f y = mkb bk c0 W0 y) → σ' a = some (.dict (ring.map V.int)) → ring.length ≤ ring0.length + 80 → (∀ b, b ∈ ring ↔ b ∈ ring0 ∨ ∃ y ∈ W0, bs y = b) → Q .none σ') :
    (sem zba zbf (k + 1) true).run "Search" "marked" [.ref A.sr, .int v, .int m, .int c0, .ref a] σ Q X := by
  refine zbe (F := zcg) rfl ⟨rfl, ?_⟩
  simp only [zcg, zay, zak, zaF, zaj, zad, zac, zaW, zap, zaX, zaE, zaY, zaG, E_tt, E_ff, za2, za0, zaZ, zaL, za4, za1, zaU, zaV, zaC, zaD, zaM, zaI, zaH, E_m1, zaN, za3, zan, zaJ, zam, zao, E_b1, zaK, za5, zaP, zas, zar, zaq, zaB, zal, zaT, zav, I_r1, I_r2, I_r3, zaS, zau, zat, zaO, zag, zai, zah, zax, zaw, zaA, zaz, List.map_cons, List.map_nil, List.length_cons, List.length_nil, List.cons_append, List.nil_append, List.replicate, Nat.reduceAdd, Nat.reduceSub, Loc.get, zgz, zgs, zjs, zaa, tgOk, onT, zaf, true_and, zae, zss, zsz, zab]
  refine zb5 (fun t ρ σ' => ∃ D W p c f ring, Mk M bk bs root v c0 x W0 ring0 D W p c f ring ∧ W.length + t ≤ 40 ∧ ring.length ≤ ring0.length + 2 * t ∧ Sa σ0 σ' A n root f bs O q ∧ σ' a = some (.dict (ring.map V.int)) ∧ ρ = [some (.ref A.sr), some (.int p), some (.int m), some (.int c), some (.ref a)]) 40
    ⟨[], W0, v, c0, bk, ring0, .init w, hl, Nat.le_refl _, h, ha, rfl⟩ ?_ ?_
  · intro t ρ σ' zz57
    refine ob61 zz57 ?_
    clear zz57
    intro D W p c f ring mk l1 l2 s hr ee190
    subst ee190
    lia
  · intro t ρ σ' K zz58
    refine ob61 zz58 ?_
    clear zz58
    intro D W p c f ring mk l1 l2 s hr ee191
    subst ee191
    intro hK
    have hp : p = x ∨ p ∈ ev W0 := mk.w.hd.imp id fun z => by rw [mk.e, mk.d.evA]; exact List.mem_append_right _ z
    have rp : 0 ≤ p ∧ p < n := hp.elim (fun e => e ▸ rx) fun z => (re p z).1
    simp only [Loc.get, zgz, zgs, zjs, zaa, tgOk, onT, zaf, true_and, zae, zss, zsz, zab]
    refine s.base rp (zaQ (a := !(bs p == m)) rfl ?_)
    show if (!(bs p == m)) = true then _ else _
    by_cases e : bs p = m
    · rw [e, beq_self_eq_true]
      refine zj2 (c := (!true) = true) Bool.false_ne_true ?_
      have px : p = x := hp.resolve_right fun z => nm p (zbg z) e
      subst px
      refine ob14 (mk.end fun z => nm _ z bx) ?_
      intro k1 k2
      exact hQ σ' f ring s k1 hr (by lia) k2
    · rw [beq_eq_false_iff_ne.mpr e]
      refine zeZ (c := (!false) = true) rfl ?_
      have px : p ≠ x := fun z => e (z ▸ bx)
      have r2 := re p (hp.resolve_left px)
      simp only [zcT, zay, zak, zaF, zaj, zad, zac, zaW, zap, zaX, zaE, zaY, zaG, E_tt, E_ff, za2, za0, zaZ, zaL, za4, za1, zaU, zaV, zaC, zaD, zaM, zaI, zaH, E_m1, zaN, za3, zan, zaJ, zam, zao, E_b1, zaK, za5, zaP, zas, zar, zaq, zaB, zal, zaT, zav, I_r1, I_r2, I_r3, zaS, zau, zat, zaO, zag, zai, zah, zax, zaw, zaA, zaz, Loc.get, zgz, zgs, zjs, zaa, tgOk, onT, zaf, true_and, zae, zss, zsz, zab]
      refine s.base rp (zdd hr (by unfold zbb; lia) ?_)
      have s1 := s.dict (D' := ((if bs p ∈ ring then ring else ring ++ [bs p]).map V.int)) fa hr
      simp only [zcO, zay, zak, zaF, zaj, zad, zac, zaW, zap, zaX, zaE, zaY, zaG, E_tt, E_ff, za2, za0, zaZ, zaL, za4, za1, zaU, zaV, zaC, zaD, zaM, zaI, zaH, E_m1, zaN, za3, zan, zaJ, zam, zao, E_b1, zaK, za5, zaP, zas, zar, zaq, zaB, zal, zaT, zav, I_r1, I_r2, I_r3, zaS, zau, zat, zaO, zag, zai, zah, zax, zaw, zaA, zaz, Loc.get, zgz, zgs, zjs, zaa, tgOk, onT, zaf, true_and, zae, zss, zsz, zab]
      refine s1.at rfl rfl (s1.mate hm rp (zdR s1.hs r2.2.1 (by lia) (zdd zaR ?_ ?_)))
      · split <;> unfold zbb
        · lia
        · rw [List.length_append, List.length_singleton]; lia
      rw [zb8]
      generalize hr1 : (if bs p ∈ ring then ring else ring ++ [bs p]) = ring1
      have m1 : ∀ b, b ∈ ring1 ↔ b ∈ ring ∨ b = bs p := fun b => by
        rw [← hr1]; split
        · rename_i z; exact ⟨.inl, fun y => y.elim id fun e => e ▸ z⟩
        · rw [List.mem_append, List.mem_singleton]
      have t1 : ring1.length ≤ ring.length + 1 := by
        rw [← hr1]; split
        · lia
        · rw [List.length_append, List.length_singleton]; exact Nat.le_refl _
      generalize hr2 : (if bs (M p) ∈ ring1 then ring1 else ring1 ++ [bs (M p)]) = ring2
      have m2 : ∀ b, b ∈ ring2 ↔ b ∈ ring ∨ b = bs p ∨ b = bs (M p) := fun b => by
        rw [← hr2, ← or_assoc, ← m1 b]; split
        · rename_i z; exact ⟨.inl, fun y => y.elim id fun e => e ▸ z⟩
        · rw [List.mem_append, List.mem_singleton]
      have t2 : ring2.length ≤ ring1.length + 1 := by
        rw [← hr2]; split
        · lia
        · rw [List.length_append, List.length_singleton]; exact Nat.le_refl _
      have s2 := s.dict (D' := (ring2.map V.int)) fa hr
      have hr3 : (σ'.upd a (.dict (ring2.map V.int))) a = some (.dict (ring2.map V.int)) := zaR
      generalize σ'.upd a (.dict (ring2.map V.int)) = σ2 at *
      refine ob59 (mk.next nd px m2) ?_
      intro D' W' mk' lw ef en _
      simp only [zcP, zay, zak, zaF, zaj, zad, zac, zaW, zap, zaX, zaE, zaY, zaG, E_tt, E_ff, za2, za0, zaZ, zaL, za4, za1, zaU, zaV, zaC, zaD, zaM, zaI, zaH, E_m1, zaN, za3, zan, zaJ, zam, zao, E_b1, zaK, za5, zaP, zas, zar, zaq, zaB, zal, zaT, zav, I_r1, I_r2, I_r3, zaS, zau, zat, zaO, zag, zai, zah, zax, zaw, zaA, zaz, Loc.get, zgz, zgs, zjs, zaa, tgOk, onT, zaf, true_and, zae, zss, zsz, zab]
      refine s2.at rfl rfl (zjI s2.hb rp.1 (by lia) ?_)
      have s3 := s2.putB (bk' := fun j => if j = p then c else f j)
      have hr4 : (σ2.upd A.b (.list (zbj n.toNat fun j => if j = p then c else f j))) a = some (.dict (ring2.map V.int)) := (za7 (zcB hr3 s2.hb fun e => by cases e)).trans hr3
      generalize σ2.upd A.b (.list (zbj n.toNat fun j => if j = p then c else f j)) = σ3 at *
      simp only [zcQ, zay, zak, zaF, zaj, zad, zac, zaW, zap, zaX, zaE, zaY, zaG, E_tt, E_ff, za2, za0, zaZ, zaL, za4, za1, zaU, zaV, zaC, zaD, zaM, zaI, zaH, E_m1, zaN, za3, zan, zaJ, zam, zao, E_b1, zaK, za5, zaP, zas, zar, zaq, zaB, zal, zaT, zav, I_r1, I_r2, I_r3, zaS, zau, zat, zaO, zag, zai, zah, zax, zaw, zaA, zaz, Loc.get, zgz, zgs, zjs, zaa, tgOk, onT, zaf, true_and, zae, zss, zsz, zab]
      refine s3.mate hm rp ?_
      simp only [zcR, zay, zak, zaF, zaj, zad, zac, zaW, zap, zaX, zaE, zaY, zaG, E_tt, E_ff, za2, za0, zaZ, zaL, za4, za1, zaU, zaV, zaC, zaD, zaM, zaI, zaH, E_m1, zaN, za3, zan, zaJ, zam, zao, E_b1, zaK, za5, zaP, zas, zar, zaq, zaB, zal, zaT, zav, I_r1, I_r2, I_r3, zaS, zau, zat, zaO, zag, zai, zah, zax, zaw, zaA, zaz, Loc.get, zgz, zgs, zjs, zaa, tgOk, onT, zaf, true_and, zae, zss, zsz, zab]
      refine s3.back r2.2 ?_
      refine hK _ _ ⟨D', W', _, _, _, ring2, mk', by lia, by lia, s3, hr4, ?_⟩
      show [_, some (V.int (if M p = p then c else f (M p))), _, _, _] = _
      rw [en]
end
end Mine
end
section
set_option linter.unusedVariables false
set_option linter.unusedSimpArgs false
namespace Mine
open PySem
section
variable {k : Nat} {σ σ0 : Store} {Q : V → Store → Prop} {X : XP} {A : Ad} {n root : Int} {bk bs M : Int → Int} {O : Int → Bool} {q dn : List Int} {T : List (Int × Int)} {one other : Int} {d r : Addr} {rs : List Addr}
noncomputable def bsJ (bs : Int → Int) (ring : List Int) (m : Int) (j : Nat) (x : Int) : Int := if 0 ≤ x ∧ x < j ∧ bs x ∈ ring then m else bs x
noncomputable def oJ (bs : Int → Int) (O : Int → Bool) (ring : List Int) (j : Nat) (x : Int) : Bool := O x || decide (0 ≤ x ∧ x < j ∧ bs x ∈ ring)
noncomputable def nwJ (bs : Int → Int) (O : Int → Bool) (ring : List Int) (j : Nat) : List Int := ((List.range j).filter fun i : Nat => !O (i : Int) && decide (bs (i : Int) ∈ ring)).map fun i : Nat => (i : Int)
theorem zii {ring : List Int} {j : Nat} : nwJ bs O ring (j + 1) = nwJ bs O ring j ++ (if (!O (j : Int) && decide (bs (j : Int) ∈ ring)) = true then [(j : Int)] else []) := by
  unfold nwJ
  rw [List.range_succ, List.filter_append, List.map_append, List.filter_cons]
  split <;> rfl
theorem zjP {ring : List Int} {j : Nat} (o : O (j : Int) = false) (c : bs (j : Int) ∈ ring) : nwJ bs O ring (j + 1) = nwJ bs O ring j ++ [(j : Int)] := by
  rw [zii, o, decide_eq_true c]; rfl
theorem zlP {ring : List Int} {j : Nat} (h : O (j : Int) = true ∨ bs (j : Int) ∉ ring) : nwJ bs O ring (j + 1) = nwJ bs O ring j := by
  rw [zii]
  rcases h with h | h
  · rw [h]; exact List.append_nil _
  · rw [decide_eq_false h, Bool.and_false]; exact List.append_nil _
theorem zmq {ring : List Int} {j : Nat} {x : Int} : x ∈ nwJ bs O ring j ↔ (0 ≤ x ∧ x < j) ∧ O x = false ∧ bs x ∈ ring := by
  unfold nwJ
  rw [List.mem_map]
  constructor
  · intro zz59
    refine ob7 zz59 ?_
    clear zz59
    intro i hi ee192
    subst ee192
    rw [List.mem_filter, List.mem_range, Bool.and_eq_true, decide_eq_true_eq, Bool.not_eq_true'] at hi
    exact ⟨⟨by lia, by lia⟩, hi.2⟩
  · intro zz60
    refine ob62 zz60 ?_
    clear zz60
    intro h0 h1 h2 h3
    refine ⟨x.toNat, ?_, by lia⟩
    rw [List.mem_filter, List.mem_range, Bool.and_eq_true, decide_eq_true_eq, Bool.not_eq_true', Int.toNat_of_nonneg h0]
    exact ⟨by lia, h2, h3⟩
theorem nwJ_nodup {ring : List Int} {j : Nat} : (nwJ bs O ring j).Nodup :=
  List.pairwise_map.mpr ((List.nodup_range.sublist List.filter_sublist).imp fun h e => h (by lia))
theorem znT {ring : List Int} {m : Int} {j : Nat} (h : bs j ∈ ring) : bsJ bs ring m (j + 1) = fun x : Int => if x = (j : Int) then m else bsJ bs ring m j x := funext fun x => by
  unfold bsJ
  by_cases e : x = j
  · rw [if_pos e, if_pos ⟨by lia, by lia, e ▸ h⟩]
  · rw [if_neg e]
    by_cases c : 0 ≤ x ∧ x < j ∧ bs x ∈ ring
    · rw [if_pos c, if_pos ⟨c.1, by lia, c.2.2⟩]
    · rw [if_neg c, if_neg fun z => c ⟨z.1, by lia, z.2.2⟩]
theorem zm6 {ring : List Int} {m : Int} {j : Nat} (h : bs j ∉ ring) : bsJ bs ring m (j + 1) = bsJ bs ring m j := funext fun x => by
  unfold bsJ
  by_cases c : 0 ≤ x ∧ x < j ∧ bs x ∈ ring
  · rw [if_pos c, if_pos ⟨c.1, by lia, c.2.2⟩]
  · rw [if_neg c, if_neg fun z => c ⟨z.1, ?_, z.2.2⟩]
    have : x ≠ j := fun e => h (e ▸ z.2.2)
    lia
theorem zn5 {ring : List Int} {j : Nat} (h : bs j ∈ ring) : oJ bs O ring (j + 1) = fun x : Int => oJ bs O ring j x || decide (x = (j : Int)) := funext fun x => by
  unfold oJ
  rw [Bool.or_assoc]
  congr 1
  rw [← Bool.decide_or]
  refine decide_eq_decide.mpr ⟨fun z => ?_, fun z => z.elim (fun z => ⟨z.1, by lia, z.2.2⟩) fun z => ⟨by lia, by lia, z ▸ h⟩⟩
  by_cases e : x = j
  · exact .inr e
  · exact .inl ⟨z.1, by lia, z.2.2⟩
theorem zlO {ring : List Int} {j : Nat} (h : bs j ∈ ring → O j = true) : oJ bs O ring (j + 1) = oJ bs O ring j := funext fun x => by
  unfold oJ
  by_cases e : x = j
  · subst e
    by_cases c : bs j ∈ ring
    · rw [h c, Bool.true_or, Bool.true_or]
    · rw [decide_eq_false fun z => c z.2.2, decide_eq_false fun z => c z.2.2]
  · congr 1
    exact decide_eq_decide.mpr ⟨fun z => ⟨z.1, by lia, z.2.2⟩, fun z => ⟨z.1, by lia, z.2.2⟩⟩
theorem zk4 {m : Int} {ring : List Int} {a : Addr} {N Y} {Q : V → Store → Prop} (hx : NetAt σ0 A.x d r rs n T) (h : Sa σ0 σ A n root bk bs O q) (hl : q.length ≤ 40) (ha : σ a = some (.dict (ring.map V.int)))
    (hQ : ∀ σ' ρ, Sa σ0 σ' A n root bk (bsJ bs ring m n.toNat) (oJ bs O ring n.toNat) (q ++ nwJ bs O ring n.toNat) → N ρ σ') :
    wpSs (sem zba zbf k) true zbX [some (.ref A.sr), some (.int one), some (.int other), some (.int m), some (.ref a), none] σ N Q Y := by
  have hlo := hx.lo
  have hhi := hx.hi
  simp only [zbX, zay, zak, zaF, zaj, zad, zac, zaW, zap, zaX, zaE, zaY, zaG, E_tt, E_ff, za2, za0, zaZ, zaL, za4, za1, zaU, zaV, zaC, zaD, zaM, zaI, zaH, E_m1, zaN, za3, zan, zaJ, zam, zao, E_b1, zaK, za5, zaP, zas, zar, zaq, zaB, zal, zaT, zav, I_r1, I_r2, I_r3, zaS, zau, zat, zaO, zag, zai, zah, zax, zaw, zaA, zaz, Loc.get, zgz, zgs, zjs, zaa, tgOk, onT, zaf, true_and, zae, zss, zsz, zab]
  refine h.ground (zdc (hx.ext h.ext) ⟨by lia, ?_⟩)
  refine zbp (fun j ρ σ' => Sa σ0 σ' A n root bk (bsJ bs ring m j) (oJ bs O ring j) (q ++ nwJ bs O ring j) ∧ σ' a = some (.dict (ring.map V.int)) ∧ ∃ t, ρ = [some (.ref A.sr), some (.int one), some (.int other), some (.int m), some (.ref a), t]) ⟨?_, ha, _, rfl⟩ (fun _ _ _ _ => trivial) ?_ ?_
  · have e1 : bsJ bs ring m 0 = bs := funext fun x => if_neg fun z => by lia
    have e2 : oJ bs O ring 0 = O := funext fun x => by unfold oJ; rw [decide_eq_false fun z => by lia, Bool.or_false]
    rw [e1, e2, show nwJ bs O ring 0 = [] from rfl, List.append_nil]; exact h
  · intro j v ρ σ' K hv zz61
    refine ob58 zz61 ?_
    clear zz61
    intro s hr t ee193
    subst ee193
    intro hK
    refine ob14 (zbH hv) ?_
    intro ee194
    subst ee194
    intro hj
    rw [Int.zero_add] at hj ⊢
    have rj : (0 : Int) ≤ j ∧ (j : Int) < n := ⟨by lia, hj⟩
    have bj : bsJ bs ring m j j = bs j := if_neg fun z => by lia
    have oj : oJ bs O ring j j = O j := by unfold oJ; rw [decide_eq_false fun z => by lia, Bool.or_false]
    simp only [zcS, zay, zak, zaF, zaj, zad, zac, zaW, zap, zaX, zaE, zaY, zaG, E_tt, E_ff, za2, za0, zaZ, zaL, za4, za1, zaU, zaV, zaC, zaD, zaM, zaI, zaH, E_m1, zaN, za3, zan, zaJ, zam, zao, E_b1, zaK, za5, zaP, zas, zar, zaq, zaB, zal, zaT, zav, I_r1, I_r2, I_r3, zaS, zau, zat, zaO, zag, zai, zah, zax, zaw, zaA, zaz, Loc.get, zgz, zgs, zjs, zaa, tgOk, onT, zaf, true_and, zae, zss, zsz, zab]
    refine s.base rj ?_
    rw [bj, zhZ, zhS hr]
    by_cases c : bs (j : Int) ∈ ring
    · rw [decide_eq_true c]
      refine zaQ rfl (zch ?_)
      refine s.at rfl rfl (zjI s.hs rj.1 (by lia) ?_)
      have s1 := s.putS (bs' := fun x : Int => if x = (j : Int) then m else bsJ bs ring m j x)
      rw [← znT c] at s1 ⊢
      have hr1 : (σ'.upd A.ba (.list (zbj n.toNat (bsJ bs ring m (j + 1))))) a = some (.dict (ring.map V.int)) := (za7 (zcB hr s.hs fun e => by cases e)).trans hr
      generalize σ'.upd A.ba (.list (zbj n.toNat (bsJ bs ring m (j + 1)))) = σ1 at *
      simp only [zcM, zay, zak, zaF, zaj, zad, zac, zaW, zap, zaX, zaE, zaY, zaG, E_tt, E_ff, za2, za0, zaZ, zaL, za4, za1, zaU, zaV, zaC, zaD, zaM, zaI, zaH, E_m1, zaN, za3, zan, zaJ, zam, zao, E_b1, zaK, za5, zaP, zas, zar, zaq, zaB, zal, zaT, zav, I_r1, I_r2, I_r3, zaS, zau, zat, zaO, zag, zai, zah, zax, zaw, zaA, zaz, Loc.get, zgz, zgs, zjs, zaa, tgOk, onT, zaf, true_and, zae, zss, zsz, zab]
      refine s1.outer (zkh s1.ho rj.1 (by lia) ?_)
      rw [oj]
      cases o : O (j : Int) with
      | true =>
        refine go_b (zbv (hK _ _ ⟨?_, hr1, _, rfl⟩))
        rw [zlO fun _ => o, zlP (.inl o)]; exact s1
      | false =>
        refine go_b (zch (s1.outer (zlM s1.ho rj.1 (by lia) ?_)))
        have s2 := s1.putO (O' := fun x : Int => oJ bs O ring j x || decide (x = (j : Int)))
        rw [← zn5 c] at s2 ⊢
        have hr2 : (σ1.upd A.o (.list (zdO n.toNat (oJ bs O ring (j + 1))))) a = some (.dict (ring.map V.int)) := (za7 (zcB hr1 s1.ho fun e => by cases e)).trans hr1
        generalize σ1.upd A.o (.list (zdO n.toNat (oJ bs O ring (j + 1)))) = σ2 at *
        simp only [zcN, zay, zak, zaF, zaj, zad, zac, zaW, zap, zaX, zaE, zaY, zaG, E_tt, E_ff, za2, za0, zaZ, zaL, za4, za1, zaU, zaV, zaC, zaD, zaM, zaI, zaH, E_m1, zaN, za3, zan, zaJ, zam, zao, E_b1, zaK, za5, zaP, zas, zar, zaq, zaB, zal, zaT, zav, I_r1, I_r2, I_r3, zaS, zau, zat, zaO, zag, zai, zah, zax, zaw, zaA, zaz, Loc.get, zgz, zgs, zjs, zaa, tgOk, onT, zaf, true_and, zae, zss, zsz, zab]
        refine s2.waiting (zbc s2.hw (zbA s2.hw ?_ (hK _ _ ⟨?_, ?_, _, rfl⟩)))
        · have : (nwJ bs O ring j).length ≤ j := by
            unfold nwJ
            rw [List.length_map]
            exact Nat.le_trans (List.length_filter_le ..) (by rw [List.length_range]; exact Nat.le_refl _)
          rw [List.length_map, List.length_append]; unfold zbb; lia
        · have := s2.putW (q' := q ++ nwJ bs O ring (j + 1))
          rw [zjP o c, ← List.append_assoc, List.map_append] at this
          rw [zjP o c, ← List.append_assoc]
          exact this
        · exact (za7 (zcB hr2 s2.hw fun e => by cases e)).trans hr2
    · rw [decide_eq_false c]
      refine zaQ rfl (zbv (hK _ _ ⟨?_, hr, _, rfl⟩))
      rw [zm6 c, zlO fun z => absurd z c, zlP (.inr c)]
      exact s
  · intro ρ σ' zz62
    refine ob16 zz62 ?_
    clear zz62
    intro s _ _
    rw [List.length_map, zcU] at s
    exact hQ σ' ρ s
end
end Mine
end
section
set_option linter.unusedVariables false
set_option linter.unusedSimpArgs false
namespace Mine
open PySem
section
variable {k : Nat} {σ σ0 : Store} {Q : V → Store → Prop} {X : XP} {A : Ad} {n root : Int} {bk bs M : Int → Int} {O : Int → Bool} {q dn : List Int} {T : List (Int × Int)} {one other : Int} {d r : Addr} {rs : List Addr}
theorem Sg.ql (g : Sg n (Nb T) M bk bs O root dn q) (hn : n ≤ 40) : dn.length + q.length ≤ 40 := by
  have := zcA (m := 40) g.nod fun i hi => by have := g.rng ((g.que i).mpr hi); lia
  rw [List.length_append] at this; exact this
theorem Side.re {v m x : Int} {W Y : List Int} (s : Side M bk bs O root v m W x Y) (g : Sg n (Nb T) M bk bs O root dn q) : ∀ y ∈ ev W, (0 ≤ y ∧ y < n) ∧ (0 ≤ M y ∧ M y < n) := fun y hy =>
  ⟨g.rng (s.evo g.bl hy), g.mr (g.lab y (s.evo g.bl hy) (s.w.next hy).1).1⟩
theorem Side.wl {v m x : Int} {W Y : List Int} (s : Side M bk bs O root v m W x Y) (g : Sg n (Nb T) M bk bs O root dn q) (hn : n ≤ 40) : W.length ≤ 40 := by
  have := g.pl hn s.all s.o
  rw [List.length_append] at this; lia
theorem Rng.shr {B : Int → Int} {m x1 x2 : Int} {W1 W2 X1 X2 ring : List Int} (R : Rng M bk bs B O root one other m x1 x2 W1 W2 X1 X2) (g : Sg n (Nb T) M bk bs O root dn q) (hr : ∀ b, b ∈ ring ↔ ∃ y, (y ∈ W1 ∨ y ∈ W2) ∧ bs y = b) :
    Shr bs (bsJ bs ring m n.toNat) O (oJ bs O ring n.toNat) m W1 W2 (nwJ bs O ring n.toNat) := by
  have h1 : ∀ x, bs x ∈ ring → Cm bs m W1 W2 x := fun x hx => .inr ((hr _).mp hx)
  have rW : ∀ y, y ∈ W1 ∨ y ∈ W2 → 0 ≤ y ∧ y < n := fun y hy => hy.elim (fun z => g.pr R.s1.all R.s1.o y (List.mem_append_left _ z)) fun z => g.pr R.s2.all R.s2.o y (List.mem_append_left _ z)
  have h2 : ∀ x, Cm bs m W1 W2 x → (bs x = m ∧ O x = true) ∨ ((0 ≤ x ∧ x < n.toNat) ∧ bs x ∈ ring) := fun x hx => by
    rcases hx with hx | hx
    · refine .inl ⟨hx, ?_⟩
      cases o : O x with
      | true => rfl
      | false => rw [g.bl.ib x o] at hx; rw [hx, R.mo.1] at o; cases o
    · refine .inr ⟨?_, (hr _).mpr hx⟩
      refine ob7 hx ?_
      clear hx
      intro y hy e
      have ry := g.bsr (rW y hy)
      rw [e] at ry
      cases o : O x with
      | true => have := g.rng o; lia
      | false => rw [g.bl.ib x o] at ry; lia
  refine ⟨fun x hx => ?_, fun x hx => if_neg fun z => hx (h1 x z.2.2), fun x => ?_, fun x => ?_, nwJ_nodup⟩
  · unfold bsJ
    rcases h2 x hx with z | z
    · split
      · rfl
      · exact z.1
    · exact if_pos ⟨z.1.1, z.1.2, z.2⟩
  · unfold oJ
    rw [Bool.or_eq_true, decide_eq_true_eq]
    exact ⟨fun z => z.imp id fun z => h1 x z.2.2, fun z => z.elim .inl fun z => (h2 x z).imp (·.2) fun z => ⟨z.1.1, z.1.2, z.2⟩⟩
  · rw [zmq]
    exact ⟨fun z => ⟨z.2.1, h1 x z.2.2⟩, fun z => (h2 x z.2).elim (fun y => by rw [z.1] at y; exact Bool.noConfusion y.2) fun y => ⟨y.1, z.1, y.2⟩⟩
theorem zhE (hx : NetAt σ0 A.x d r rs n T) (h : Sa σ0 σ A n root bk bs O q) (hm : σ0 A.m = some (.list (zbj n.toNat M))) (g : Sg n (Nb T) M bk bs O root dn q) (o1 : O one = true) (o2 : O other = true) (e : Nb T one other)
    (hQ : ∀ σ' B bs' O' nw, Sa σ0 σ' A n root B bs' O' (q ++ nw) → Sg n (Nb T) M B bs' O' root dn (q ++ nw) → (∀ x y, Lk bk bs O q x y → Lk B bs' O' (q ++ nw) x y) → bs' one = bs' other → Q .none σ') :
    (sem zba zbf (k + 2) true).run "Search" "shrink" [.ref A.sr, .int one, .int other] σ Q X := by
  have hhi := hx.hi
  refine zbe (F := zcf) rfl ⟨rfl, ?_⟩
  simp only [zcf, zay, zak, zaF, zaj, zad, zac, zaW, zap, zaX, zaE, zaY, zaG, E_tt, E_ff, za2, za0, zaZ, zaL, za4, za1, zaU, zaV, zaC, zaD, zaM, zaI, zaH, E_m1, zaN, za3, zan, zaJ, zam, zao, E_b1, zaK, za5, zaP, zas, zar, zaq, zaB, zal, zaT, zav, I_r1, I_r2, I_r3, zaS, zau, zat, zaO, zag, zai, zah, zax, zaw, zaA, zaz, List.map_cons, List.map_nil, List.length_cons, List.length_nil, List.cons_append, List.nil_append, List.replicate, Nat.reduceAdd, Nat.reduceSub, Loc.get, zgz, zgs, zjs, zaa, tgOk, onT, zaf, true_and, zae, zss, zsz, zab]
  refine zbl h.top h.dic ⟨⟨rfl, rfl⟩, zgY h hm g hhi o1 o2 fun s D m W1 x1 X1 W2 x2 X2 hs s1 s2 dj => ?_⟩
  have h1 := h.new (u := .dict (D.map V.int)) hs
  generalize σ.upd s (.dict (D.map V.int)) = σ1 at *
  simp only [zcJ, zay, zak, zaF, zaj, zad, zac, zaW, zap, zaX, zaE, zaY, zaG, E_tt, E_ff, za2, za0, zaZ, zaL, za4, za1, zaU, zaV, zaC, zaD, zaM, zaI, zaH, E_m1, zaN, za3, zan, zaJ, zam, zao, E_b1, zaK, za5, zaP, zas, zar, zaq, zaB, zal, zaT, zav, I_r1, I_r2, I_r3, zaS, zau, zat, zaO, zag, zai, zah, zax, zaw, zaA, zaz, Loc.get, zgz, zgs, zjs, zaa, tgOk, onT, zaf, true_and, zae, zss, zsz, zab]
  intro a ha
  have h2 := h1.new (u := .dict []) ha
  have fa := h1.ext.none ha
  have ha2 : (σ1.upd a (.dict [])) a = some (.dict ([] : List V)) := zaR
  generalize σ1.upd a (.dict []) = σ2 at *
  have n1 := List.nodup_append.mp (s1.nd g.bl)
  have n2 := List.nodup_append.mp (s2.nd g.bl)
  have ap : ∀ y ∈ W1, y ∉ W2 := fun y hy z => s1.apart s2 g.bl dj hy (List.mem_append_left _ z)
  simp only [zcK, zay, zak, zaF, zaj, zad, zac, zaW, zap, zaX, zaE, zaY, zaG, E_tt, E_ff, za2, za0, zaZ, zaL, za4, za1, zaU, zaV, zaC, zaD, zaM, zaI, zaH, E_m1, zaN, za3, zan, zaJ, zam, zao, E_b1, zaK, za5, zaP, zas, zar, zaq, zaB, zal, zaT, zav, I_r1, I_r2, I_r3, zaS, zau, zat, zaO, zag, zai, zah, zax, zaw, zaA, zaz, Loc.get, zgz, zgs, zjs, zaa, tgOk, onT, zaf, true_and, zae, zss, zsz, zab]
  refine zbl h2.top h2.dic ⟨⟨rfl, rfl⟩, zeY (ring0 := []) h2 hm s1.w s1.b s1.n n1.1 (s1.wl g hhi) (g.rng (s1.xo g.bl)) (s1.re g) fa ha2 (by decide) fun σ3 f3 ring3 h3 e3 hr3 l3 m3 => ?_⟩
  simp only [zcL, zay, zak, zaF, zaj, zad, zac, zaW, zap, zaX, zaE, zaY, zaG, E_tt, E_ff, za2, za0, zaZ, zaL, za4, za1, zaU, zaV, zaC, zaD, zaM, zaI, zaH, E_m1, zaN, za3, zan, zaJ, zam, zao, E_b1, zaK, za5, zaP, zas, zar, zaq, zaB, zal, zaT, zav, I_r1, I_r2, I_r3, zaS, zau, zat, zaO, zag, zai, zah, zax, zaw, zaA, zaz, Loc.get, zgz, zgs, zjs, zaa, tgOk, onT, zaf, true_and, zae, zss, zsz, zab]
  have w3 : Wk M f3 root other W2 x2 := s2.w.congr fun y hy => (e3 y).trans (zdX fun z => ap y (zbg z) (zcz hy))
  refine zbl h3.top h3.dic ⟨⟨rfl, rfl⟩, zeY (ring0 := ring3) h3 hm w3 s2.b s2.n n2.1 (s2.wl g hhi) (g.rng (s2.xo g.bl)) (s2.re g) fa hr3 (by rw [List.length_nil] at l3; lia) fun σ4 f4 ring4 h4 e4 hr4 l4 m4 => ?_⟩
  have R : Rng M bk bs f4 O root one other m x1 x2 W1 W2 X1 X2 := ⟨g.bl, s1, s2, dj, ⟨bk, fun y hy => (e4 y).trans ((zdX fun z => ap y (zbg hy) (zbg z)).trans (e3 y))⟩, ⟨f3, fun y _ => e4 y⟩, fun y a b => (e4 y).trans ((zdX b).trans ((e3 y).trans (zdX a)))⟩
  have shr := R.shr (ring := ring4) g fun b => by
    rw [m4 b, m3 b]
    constructor
    · rintro ((z | ⟨y, hy, z⟩) | ⟨y, hy, z⟩)
      · exact absurd z List.not_mem_nil
      · exact ⟨y, .inl hy, z⟩
      · exact ⟨y, .inr hy, z⟩
    · rintro ⟨y, hy | hy, z⟩
      · exact .inl (.inr ⟨y, hy, z⟩)
      · exact .inr ⟨y, hy, z⟩
  refine zk4 hx h4 (by have := g.ql hhi; lia) hr4 fun σ5 ρ h5 => ?_
  exact hQ σ5 f4 _ _ _ h5 (R.sg g e shr) (fun x y => R.lk shr) (by rw [shr.h1 one R.c1, shr.h1 other R.sym.c1.sym])
end
end Mine
end
section
set_option linter.unusedVariables false
set_option linter.unusedSimpArgs false
namespace Mine
open PySem
section
variable {k : Nat} {σ σ0 : Store} {Q : V → Store → Prop} {X : XP} {A : Ad} {n root : Int} {bk bs M : Int → Int} {O : Int → Bool} {q dn : List Int} {T : List (Int × Int)} {p j : Int} {d r : Addr} {rs : List Addr}
theorem Sg.lkM (g : Sg n (Nb T) M bk bs O root dn q) (op : O p = true) (hj : 0 ≤ j) (e : M p = j) : Lk bk bs O q p j := by
  subst e
  have nr := (g.bn op hj).1
  cases o : O (M p) with
  | true => exact .inl (g.bl.same op nr o).symm
  | false => exact .inr (.inl ⟨o, (g.lab p op nr).2⟩)
theorem Sg.outJ (g : Sg n (Nb T) M bk bs O root dn q) (h : j = root ∨ (0 ≤ M j ∧ 0 ≤ bk (M j))) : O j = true := by
  rcases h with rfl | ⟨h1, h2⟩
  · exact g.bl.rt
  · have k := g.mt j h1
    cases o : O (M j) with
    | true => have := g.mkd _ o h2; rwa [k.1] at this
    | false => have := (g.inn _ h2 o).2; rwa [k.1] at this
theorem zjF (hx : NetAt σ0 A.x d r rs n T) (h : Sa σ0 σ A n root bk bs O q) (hm : σ0 A.m = some (.list (zbj n.toNat M))) (g : Sg n (Nb T) M bk bs O root dn q) (op : O p = true) (e : Nb T p j)
    (h2 : ∀ σ', Sa σ0 σ' A n root (fun x => if x = j then p else bk x) bs O q → M j < 0 → O j = false → Q (.bool true) σ')
    (h3 : ∀ σ' bk' bs' O' q', Sa σ0 σ' A n root bk' bs' O' q' → Sg n (Nb T) M bk' bs' O' root dn q' → (∀ x y, Lk bk bs O q x y → Lk bk' bs' O' q' x y) → Lk bk' bs' O' q' p j → Q (.bool false) σ') :
    (sem zba zbf (k + 3) true).run "Search" "step" [.ref A.sr, .int p, .int j] σ Q X := by
  have hhi := hx.hi
  have rp := g.rng op
  have rj : 0 ≤ j ∧ j < n := (g.gr _ _ (g.gr _ _ e).1).2.2
  have stay : Lk bk bs O q p j → Q (.bool false) σ := fun z => h3 σ bk bs O q h g (fun _ _ => id) z
  have ql := g.ql hhi
  refine zbe (F := zc6) rfl ⟨rfl, ?_⟩
  simp only [zc6, zay, zak, zaF, zaj, zad, zac, zaW, zap, zaX, zaE, zaY, zaG, E_tt, E_ff, za2, za0, zaZ, zaL, za4, za1, zaU, zaV, zaC, zaD, zaM, zaI, zaH, E_m1, zaN, za3, zan, zaJ, zam, zao, E_b1, zaK, za5, zaP, zas, zar, zaq, zaB, zal, zaT, zav, I_r1, I_r2, I_r3, zaS, zau, zat, zaO, zag, zai, zah, zax, zaw, zaA, zaz, List.map_cons, List.map_nil, List.length_cons, List.length_nil, List.cons_append, List.nil_append, List.replicate, Nat.reduceAdd, Nat.reduceSub, Loc.get, zgz, zgs, zjs, zaa, tgOk, onT, zaf, true_and, zae, zss, zsz, zab]
  refine h.base rp (h.base rj (zaQ (a := (bs p == bs j)) rfl ?_))
  by_cases e1 : bs p = bs j
  · rw [beq_iff_eq.mpr e1]
    exact znF (zch (stay (.inl e1)))
  rw [beq_eq_false_iff_ne.mpr e1]
  refine zef (h.mate hm rp (zaQ (a := (M p == j)) rfl ?_))
  by_cases e2 : M p = j
  · rw [beq_iff_eq.mpr e2]
    exact zch (stay (g.lkM op rj.1 e2))
  rw [beq_eq_false_iff_ne.mpr e2]
  refine zbv ?_
  have shr : O j = true → wpSs (sem zba zbf (k + 2)) true (.cons (.expr (.meth (.var 0) "shrink" (.cons (.var 1) (.cons (.var 2) .nil)))) zce) [some (.ref A.sr), some (.int p), some (.int j)] σ (fun ρ₁ σ₁ => wpSs (sem zba zbf (k + 2)) true zbP ρ₁ σ₁ (fun _ σ' => Q .none σ') Q (fun c a _ σ' => X c a σ')) Q (fun c a _ σ' => X c a σ') := fun oj => by
    simp only [zce, zay, zak, zaF, zaj, zad, zac, zaW, zap, zaX, zaE, zaY, zaG, E_tt, E_ff, za2, za0, zaZ, zaL, za4, za1, zaU, zaV, zaC, zaD, zaM, zaI, zaH, E_m1, zaN, za3, zan, zaJ, zam, zao, E_b1, zaK, za5, zaP, zas, zar, zaq, zaB, zal, zaT, zav, I_r1, I_r2, I_r3, zaS, zau, zat, zaO, zag, zai, zah, zax, zaw, zaA, zaz, Loc.get, zgz, zgs, zjs, zaa, tgOk, onT, zaf, true_and, zae, zss, zsz, zab]
    exact zbl h.top h.dic ⟨⟨rfl, rfl⟩, zhE hx h hm g op oj e fun σ' B bs' O' nw s g' lk eb => h3 σ' B bs' O' _ s g' lk (.inl eb)⟩
  have next : j ≠ root → ¬ (0 ≤ M j ∧ 0 ≤ bk (M j)) → wpSs (sem zba zbf (k + 2)) true zbP [some (.ref A.sr), some (.int p), some (.int j)] σ (fun _ σ' => Q .none σ') Q (fun c a _ σ' => X c a σ') := fun jr no => by
    have oj := g.fresh jr no
    simp only [zbP, zay, zak, zaF, zaj, zad, zac, zaW, zap, zaX, zaE, zaY, zaG, E_tt, E_ff, za2, za0, zaZ, zaL, za4, za1, zaU, zaV, zaC, zaD, zaM, zaI, zaH, E_m1, zaN, za3, zan, zaJ, zam, zao, E_b1, zaK, za5, zaP, zas, zar, zaq, zaB, zal, zaT, zav, I_r1, I_r2, I_r3, zaS, zau, zat, zaO, zag, zai, zah, zax, zaw, zaA, zaz, Loc.get, zgz, zgs, zjs, zaa, tgOk, onT, zaf, true_and, zae, zss, zsz, zab]
    refine h.back rj (zaQ (a := decide (0 ≤ bk j)) rfl ?_)
    by_cases b : 0 ≤ bk j
    · rw [decide_eq_true b]
      exact zch (stay (.inr (.inl ⟨oj, b⟩)))
    rw [decide_eq_false b]
    refine zbv ?_
    simp only [zdp, zay, zak, zaF, zaj, zad, zac, zaW, zap, zaX, zaE, zaY, zaG, E_tt, E_ff, za2, za0, zaZ, zaL, za4, za1, zaU, zaV, zaC, zaD, zaM, zaI, zaH, E_m1, zaN, za3, zan, zaJ, zam, zao, E_b1, zaK, za5, zaP, zas, zar, zaq, zaB, zal, zaT, zav, I_r1, I_r2, I_r3, zaS, zau, zat, zaO, zag, zai, zah, zax, zaw, zaA, zaz, Loc.get, zgz, zgs, zjs, zaa, tgOk, onT, zaf, true_and, zae, zss, zsz, zab]
    refine h.at rfl rfl (zjI h.hb rj.1 (by lia) ?_)
    have s1 := h.putB (bk' := fun x => if x = j then p else bk x)
    generalize σ.upd A.b (.list (zbj n.toNat fun x => if x = j then p else bk x)) = σ1 at *
    simp only [zdq, zay, zak, zaF, zaj, zad, zac, zaW, zap, zaX, zaE, zaY, zaG, E_tt, E_ff, za2, za0, zaZ, zaL, za4, za1, zaU, zaV, zaC, zaD, zaM, zaI, zaH, E_m1, zaN, za3, zan, zaJ, zam, zao, E_b1, zaK, za5, zaP, zas, zar, zaq, zaB, zal, zaT, zav, I_r1, I_r2, I_r3, zaS, zau, zat, zaO, zag, zai, zah, zax, zaw, zaA, zaz, Loc.get, zgz, zgs, zjs, zaa, tgOk, onT, zaf, true_and, zae, zss, zsz, zab]
    refine s1.mate hm rj (zaQ (a := decide (M j < 0)) rfl ?_)
    by_cases m : M j < 0
    · rw [decide_eq_true m]
      exact zch (h2 σ1 s1 m oj)
    rw [decide_eq_false m]
    refine zbv ?_
    have m0 : 0 ≤ M j := by lia
    have rm := g.mr m0
    simp only [zdr, zay, zak, zaF, zaj, zad, zac, zaW, zap, zaX, zaE, zaY, zaG, E_tt, E_ff, za2, za0, zaZ, zaL, za4, za1, zaU, zaV, zaC, zaD, zaM, zaI, zaH, E_m1, zaN, za3, zan, zaJ, zam, zao, E_b1, zaK, za5, zaP, zas, zar, zaq, zaB, zal, zaT, zav, I_r1, I_r2, I_r3, zaS, zau, zat, zaO, zag, zai, zah, zax, zaw, zaA, zaz, Loc.get, zgz, zgs, zjs, zaa, tgOk, onT, zaf, true_and, zae, zss, zsz, zab]
    refine s1.outer (s1.mate hm rj (zlM s1.ho rm.1 (by lia) ?_))
    have s2 := s1.putO (O' := fun x => O x || decide (x = M j))
    generalize σ1.upd A.o (.list (zdO n.toNat fun x => O x || decide (x = M j))) = σ2 at *
    simp only [zds, zdt, zay, zak, zaF, zaj, zad, zac, zaW, zap, zaX, zaE, zaY, zaG, E_tt, E_ff, za2, za0, zaZ, zaL, za4, za1, zaU, zaV, zaC, zaD, zaM, zaI, zaH, E_m1, zaN, za3, zan, zaJ, zam, zao, E_b1, zaK, za5, zaP, zas, zar, zaq, zaB, zal, zaT, zav, I_r1, I_r2, I_r3, zaS, zau, zat, zaO, zag, zai, zah, zax, zaw, zaA, zaz, Loc.get, zgz, zgs, zjs, zaa, tgOk, onT, zaf, true_and, zae, zss, zsz, zab]
    refine s2.waiting (zbc s2.hw (s2.mate hm rj (zbA s2.hw (by rw [List.length_map]; unfold zbb; lia) ?_)))
    have s3 := s2.putW (q' := q ++ [M j])
    rw [List.map_append] at s3
    refine h3 _ _ _ _ _ s3 (g.grow op e oj (by lia) m0 jr (by lia)) (fun x y z => z.grow rp.1) (.inr (.inl ⟨?_, ?_⟩))
    · show (O j || decide (j = M j)) = false
      rw [oj, decide_eq_false (g.gr _ _ (g.mt j m0).2).2.1]; rfl
    · show 0 ≤ if j = j then p else bk j
      rw [if_pos rfl]; exact rp.1
  simp only [zdo, zay, zak, zaF, zaj, zad, zac, zaW, zap, zaX, zaE, zaY, zaG, E_tt, E_ff, za2, za0, zaZ, zaL, za4, za1, zaU, zaV, zaC, zaD, zaM, zaI, zaH, E_m1, zaN, za3, zan, zaJ, zam, zao, E_b1, zaK, za5, zaP, zas, zar, zaq, zaB, zal, zaT, zav, I_r1, I_r2, I_r3, zaS, zau, zat, zaO, zag, zai, zah, zax, zaw, zaA, zaz, Loc.get, zgz, zgs, zjs, zaa, tgOk, onT, zaf, true_and, zae, zss, zsz, zab]
  refine h.rootA (zaQ (a := (j == root)) rfl ?_)
  by_cases jr : j = root
  · rw [beq_iff_eq.mpr jr]
    exact znF (zch (shr (g.outJ (.inl jr))))
  rw [beq_eq_false_iff_ne.mpr jr]
  refine zef (h.mate hm rj (zaQ (a := decide (0 ≤ M j)) rfl ?_))
  by_cases m0 : 0 ≤ M j
  · rw [decide_eq_true m0]
    refine zch (h.at rfl rfl (h.mate hm rj (zdR h.hb (g.mr m0).1 (by have := (g.mr m0).2; lia) (zaQ (a := decide (0 ≤ bk (M j))) rfl ?_))))
    by_cases b0 : 0 ≤ bk (M j)
    · rw [decide_eq_true b0]
      exact zch (shr (g.outJ (.inr ⟨m0, b0⟩)))
    · rw [decide_eq_false b0]
      exact zbv (next jr fun z => b0 z.2)
  · rw [decide_eq_false m0]
    exact zbv (zbv (next jr fun z => m0 z.1))
end
end Mine
end
section
set_option linter.unusedVariables false
set_option linter.unusedSimpArgs false
namespace Mine
open PySem
section
variable {k : Nat} {σ σ0 : Store} {Q : V → Store → Prop} {X : XP} {A : Ad} {n root : Int} {bk bs M : Int → Int} {O : Int → Bool} {q dn : List Int} {T : List (Int × Int)} {p j : Int} {d r : Addr} {rs : List Addr}
noncomputable def zlI (T : List (Int × Int)) (M : Int → Int) (root : Int) : Prop := ∀ N : Int → Int, (∀ i, 0 ≤ N i → N (N i) = i ∧ Nb T i (N i)) → (∀ i, 0 ≤ M i → 0 ≤ N i) → 0 ≤ N root → False
structure Hit (σ0 σ : Store) (A : Ad) (n root : Int) (T : List (Int × Int)) (M : Int → Int) (e : Int) : Prop where
  ex : ∃ bk bs O q dn p, Sa σ0 σ A n root (fun x => if x = e then p else bk x) bs O q ∧ Sg n (Nb T) M bk bs O root dn q ∧ O p = true ∧ Nb T p e ∧ M e < 0 ∧ O e = false
theorem zkn {t2 : Option V} {N : Loc → Store → Prop} {Y} (hx : NetAt σ0 A.x d r rs n T) (h : Sa σ0 σ A n root bk bs O q) (hm : σ0 A.m = some (.list (zbj n.toNat M))) (g : Sg n (Nb T) M bk bs O root (dn ++ [p]) q)
    (lk : ∀ x ∈ dn, ∀ j, Nb T x j → Lk bk bs O q x j ∨ j = p)
    (h1 : ∀ σ' e, Hit σ0 σ' A n root T M e → Q (.int e) σ')
    (hN : ∀ σ' bk' bs' O' q' t2, Sa σ0 σ' A n root bk' bs' O' q' → Sg n (Nb T) M bk' bs' O' root (dn ++ [p]) q' → (∀ x ∈ dn ++ [p], ∀ j, Nb T x j → Lk bk' bs' O' q' x j) → N [some (.ref A.sr), some (.int p), t2] σ') :
    wpSs (sem zba zbf (k + 3)) true zb1 [some (.ref A.sr), some (.int p), t2] σ N Q Y := by
  have op : O p = true := (g.que p).mpr (List.mem_append_left _ (List.mem_append_right _ (List.mem_singleton.mpr rfl)))
  have rp := g.rng op
  simp only [zb1, zay, zak, zaF, zaj, zad, zac, zaW, zap, zaX, zaE, zaY, zaG, E_tt, E_ff, za2, za0, zaZ, zaL, za4, za1, zaU, zaV, zaC, zaD, zaM, zaI, zaH, E_m1, zaN, za3, zan, zaJ, zam, zao, E_b1, zaK, za5, zaP, zas, zar, zaq, zaB, zal, zaT, zav, I_r1, I_r2, I_r3, zaS, zau, zat, zaO, zag, zai, zah, zax, zaw, zaA, zaz, Loc.get, zgz, zgs, zjs, zaa, tgOk, onT, zaf, true_and, zae, zss, zsz, zab]
  refine h.ground (zns hx h.ext rp.1 rp.2 fun a ha => ?_)
  simp only [zcY]
  refine zbc (h.ext _ _ ha) ?_
  refine zbp (fun i ρ σ' => ∃ bk' bs' O' q', (Sa σ0 σ' A n root bk' bs' O' q' ∧ Sg n (Nb T) M bk' bs' O' root (dn ++ [p]) q') ∧ (∀ x ∈ dn, ∀ j, Nb T x j → Lk bk' bs' O' q' x j ∨ j = p) ∧ (∀ j ∈ (zbt (nb T p)).take i, Lk bk' bs' O' q' p j) ∧ ∃ t, ρ = [some (.ref A.sr), some (.int p), t])
    ⟨bk, bs, O, q, ⟨h, g⟩, lk, fun j hj => absurd hj List.not_mem_nil, _, rfl⟩ ?_ ?_ ?_
  · intro i ρ σ' zz63
    refine ob63 zz63 ?_
    clear zz63
    intro bk' bs' O' q' s _ _ _ _ ee195
    subst ee195
    exact s.ext _ _ ha
  · intro i v ρ σ' K hv zz64
    refine ob63 zz64 ?_
    clear zz64
    intro bk' bs' O' q' s g' l1 l2 t ee196
    subst ee196
    intro hK
    refine ob7 (zmH hv) ?_
    intro j ee197
    subst ee197
    intro hj
    have e : Nb T p j := mem_sortI.mp (List.mem_of_getElem? hj)
    have op' : O' p = true := (g'.que p).mpr (List.mem_append_left _ (List.mem_append_right _ (List.mem_singleton.mpr rfl)))
    simp only [zdb, zay, zak, zaF, zaj, zad, zac, zaW, zap, zaX, zaE, zaY, zaG, E_tt, E_ff, za2, za0, zaZ, zaL, za4, za1, zaU, zaV, zaC, zaD, zaM, zaI, zaH, E_m1, zaN, za3, zan, zaJ, zam, zao, E_b1, zaK, za5, zaP, zas, zar, zaq, zaB, zal, zaT, zav, I_r1, I_r2, I_r3, zaS, zau, zat, zaO, zag, zai, zah, zax, zaw, zaA, zaz, Loc.get, zgz, zgs, zjs, zaa, tgOk, onT, zaf, true_and, zae, zss, zsz, zab]
    refine zbl s.top s.dic ⟨⟨rfl, rfl⟩, zjF hx s hm g' op' e (fun σ2 s2 m o => ?_) fun σ2 bk2 bs2 O2 q2 s2 g2 lk2 lj => ?_⟩
    · exact zch (h1 σ2 j ⟨_, _, _, _, _, _, s2, g', op', e, m, o⟩)
    · refine zbv (hK _ _ ⟨bk2, bs2, O2, q2, ⟨s2, g2⟩, fun x hx y hy => (l1 x hx y hy).imp (lk2 x y) id, fun y hy => ?_, _, rfl⟩)
      refine ob12 (List.getElem?_eq_some_iff.mp hj) ?_
      intro hi ee198
      subst ee198
      rw [List.take_succ_eq_append_getElem hi] at hy
      rcases List.mem_append.mp hy with hy | hy
      · exact lk2 p y (l2 y hy)
      · rw [List.mem_singleton.mp hy]; exact lj
  · intro ρ σ' zz65
    refine ob63 zz65 ?_
    clear zz65
    intro bk' bs' O' q' s g' l1 l2 t ee199
    subst ee199
    rw [List.length_map, List.take_length] at l2
    have lp : ∀ j, Nb T p j → Lk bk' bs' O' q' p j := fun j hj => l2 j (mem_sortI.mpr hj)
    refine hN σ' bk' bs' O' q' t s g' fun x hx y hy => ?_
    rcases List.mem_append.mp hx with xd | xd
    · rcases l1 x xd y hy with z | z
      · exact z
      · have ox : O' x = true := (g'.que x).mpr (List.mem_append_left _ (List.mem_append_left _ xd))
        rw [z] at hy ⊢
        rcases lp x (zeU hy) with z | z | z
        · exact .inl z.symm
        · rw [ox] at z; cases z.1
        · exact absurd rfl ((List.nodup_append.mp g'.nod).2.2 x (List.mem_append_left _ xd) x z)
    · rw [List.mem_singleton.mp xd] at hy ⊢; exact lp y hy
theorem zjh (hx : NetAt σ0 A.x d r rs n T) (h : Sa σ0 σ A n root bk bs O q) (hm : σ0 A.m = some (.list (zbj n.toNat M))) (g : Sg n (Nb T) M bk bs O root [] q)
    (h1 : ∀ σ' w e, Hit σ0 σ' { A with w := w } n root T M e → Q (.int e) σ')
    (h2 : ∀ σ', Ext σ0 σ' → zlI T M root → Q (.int (-1)) σ') :
    (sem zba zbf (k + 4) true).run "Search" "found" [.ref A.sr] σ Q X := by
  have hhi := hx.hi
  refine zbe (F := zcx) rfl ⟨rfl, ?_⟩
  simp only [zcx, zay, zak, zaF, zaj, zad, zac, zaW, zap, zaX, zaE, zaY, zaG, E_tt, E_ff, za2, za0, zaZ, zaL, za4, za1, zaU, zaV, zaC, zaD, zaM, zaI, zaH, E_m1, zaN, za3, zan, zaJ, zam, zao, E_b1, zaK, za5, zaP, zas, zar, zaq, zaB, zal, zaT, zav, I_r1, I_r2, I_r3, zaS, zau, zat, zaO, zag, zai, zah, zax, zaw, zaA, zaz, List.map_cons, List.map_nil, List.length_cons, List.length_nil, List.cons_append, List.nil_append, List.replicate, Nat.reduceAdd, Nat.reduceSub, Loc.get, zgz, zgs, zjs, zaa, tgOk, onT, zaf, true_and, zae, zss, zsz, zab]
  refine zb5 (fun t ρ σ' => ∃ w bk bs O dn q, (Sa σ0 σ' { A with w := w } n root bk bs O q ∧ Sg n (Nb T) M bk bs O root dn q) ∧ dn.length = t ∧ (∀ x ∈ dn, ∀ j, Nb T x j → Lk bk bs O q x j) ∧ ∃ t1 t2, ρ = [some (.ref A.sr), t1, t2]) 40
    ⟨A.w, bk, bs, O, [], q, ⟨h, g⟩, rfl, fun x hx => absurd hx List.not_mem_nil, _, _, rfl⟩ ?_ ?_
  · intro t ρ σ' zz66
    refine ob64 zz66 ?_
    clear zz66
    intro w bk bs O dn q s g ee200
    subst ee200
    intro _
    have := g.ql hhi; lia
  · intro t ρ σ' K zz67
    refine ob65 zz67 ?_
    clear zz67
    intro w bk bs O dn q s g ee201
    subst ee201
    intro lk t1 t2 ee202
    subst ee202
    intro hK
    simp only [Loc.get, zgz, zgs, zjs, zaa, tgOk, onT, zaf, true_and, zae, zss, zsz, zab]
    refine s.waiting ?_
    simp only [zeC s.hw, List.length_map, zkv, zaa]
    cases q with
    | nil =>
      refine zbv ?_
      simp only [zc8, zay, zak, zaF, zaj, zad, zac, zaW, zap, zaX, zaE, zaY, zaG, E_tt, E_ff, za2, za0, zaZ, zaL, za4, za1, zaU, zaV, zaC, zaD, zaM, zaI, zaH, E_m1, zaN, za3, zan, zaJ, zam, zao, E_b1, zaK, za5, zaP, zas, zar, zaq, zaB, zal, zaT, zav, I_r1, I_r2, I_r3, zaS, zau, zat, zaO, zag, zai, zah, zax, zaw, zaA, zaz, Loc.get, zgz, zgs, zjs, zaa, tgOk, onT, zaf, true_and, zae, zss, zsz, zab]
      exact h2 σ' s.ext fun N a b c => g.dead lk a b c
    | cons p q =>
      rw [decide_eq_true (by rw [List.length_cons]; lia)]
      refine zch ?_
      simp only [zda, zay, zak, zaF, zaj, zad, zac, zaW, zap, zaX, zaE, zaY, zaG, E_tt, E_ff, za2, za0, zaZ, zaL, za4, za1, zaU, zaV, zaC, zaD, zaM, zaI, zaH, E_m1, zaN, za3, zan, zaJ, zam, zao, E_b1, zaK, za5, zaP, zas, zar, zaq, zaB, zal, zaT, zav, I_r1, I_r2, I_r3, zaS, zau, zat, zaO, zag, zai, zah, zax, zaw, zaA, zaz, Loc.get, zgz, zgs, zjs, zaa, tgOk, onT, zaf, true_and, zae, zss, zsz, zab]
      refine s.waiting (zbZ s.hw (by decide) rfl ?_)
      simp only [zc9, zay, zak, zaF, zaj, zad, zac, zaW, zap, zaX, zaE, zaY, zaG, E_tt, E_ff, za2, za0, zaZ, zaL, za4, za1, zaU, zaV, zaC, zaD, zaM, zaI, zaH, E_m1, zaN, za3, zan, zaJ, zam, zao, E_b1, zaK, za5, zaP, zas, zar, zaq, zaB, zal, zaT, zav, I_r1, I_r2, I_r3, zaS, zau, zat, zaO, zag, zai, zah, zax, zaw, zaA, zaz, Loc.get, zgz, zgs, zjs, zaa, tgOk, onT, zaf, true_and, zae, zss, zsz, zab]
      refine s.waiting (zk3 s.hw (by decide) (by rw [List.length_map, List.length_cons]; lia) fun w2 hw2 => ?_)
      have s2 := s.newW (q' := q) hw2
      have nn : ∀ {a : Addr} {u : AO}, σ' a = some u → a ≠ w2 := fun ha => zbF ha hw2
      refine zbl ((za7 (nn s.top)).trans s.top) ((za7 (nn s.dic)).trans s.dic) ⟨⟨sfld rfl, Nat.le_of_ble_eq_true rfl⟩, ?_⟩
      have g2 : Sg n (Nb T) M bk bs O root (dn ++ [p]) q := ⟨g.bl, g.gr, g.mt, g.rr, g.lab, g.adj, g.inn, fun v => by rw [g.que v, List.append_assoc]; rfl, by rw [List.append_assoc]; exact g.nod, g.mkd⟩
      refine zkn (A := { A with w := w2 }) hx s2 hm g2 (fun x hx y hy => ?_) (fun σ3 e hit => h1 σ3 w2 e hit) fun σ3 bk3 bs3 O3 q3 t3 s3 g3 lk3 => hK _ _ ⟨w2, bk3, bs3, O3, dn ++ [p], q3, ⟨s3, g3⟩, by rw [List.length_append]; rfl, lk3, _, _, rfl⟩
      rcases lk x hx y hy with z | z | z
      · exact .inl (.inl z)
      · exact .inl (.inr (.inl z))
      · rcases List.mem_cons.mp z with z | z
        · exact .inr z
        · exact .inl (.inr (.inr z))
end
end Mine
end
section
set_option linter.unusedVariables false
set_option linter.unusedSimpArgs false
namespace Mine
open PySem
section
variable {k : Nat} {σ σ0 : Store} {Q : V → Store → Prop} {X : XP} {A : Ad} {n root e : Int} {bk bs M : Int → Int} {O : Int → Bool} {q dn : List Int} {T : List (Int × Int)} {p j : Int} {d r : Addr} {rs : List Addr}
theorem zma : (zba "" "road").isSome = true := rfl
theorem Sg.way (g : Sg n (Nb T) M bk bs O root dn q) (op : O p = true) (ep : Nb T p e) (me : M e < 0) (oe : O e = false) {L : List Int} (u : Up M bk root p L) : WayOk n T M (e :: L) := by
  have l := u.len
  have nd := g.bl.nd op u
  have el : e ∉ L := fun z => by
    rcases zcC z with z | z
    · rw [g.bl.evO u op e z] at oe; cases oe
    · refine ob2 (u.odd z) ?_
      intro c hc nc ee203
      subst ee203
      have oc := g.bl.evO u op c hc
      rw [(g.bl.mt c oc nc).1] at me
      have := (g.rng oc).1; lia
  refine ⟨by rw [List.length_cons]; lia, by rw [List.length_cons]; lia, fun x hx => ?_, List.nodup_cons.mpr ⟨el, nd⟩, fun a ha => by cases ha; exact me, fun a ha => ?_, fun i a b ha hb => ?_⟩
  · rcases List.mem_cons.mp hx with rfl | hx
    · exact (g.gr _ _ (g.gr _ _ ep).1).2.2
    · exact g.pr u op x hx
  · rw [List.length_cons, Nat.add_sub_cancel, show L.length = (L.length - 1) + 1 by lia, zgs, l.2.1] at ha
    cases ha; exact g.rr.2
  · cases i with
    | zero =>
      cases ha
      rw [zgs, l.2.2] at hb
      cases hb
      exact ⟨(g.gr _ _ ep).1, fun z => by have := (g.rng op).1; lia, fun z => absurd z (by decide)⟩
    | succ i =>
      rw [zgs] at ha hb
      refine ob14 (g.steps u op nd i a b ha hb) ?_
      intro s1 s2
      exact ⟨s1, s2.trans (by lia)⟩
theorem zjJ (hm : σ0 A.m = some (.list (zbj n.toNat M))) (hn : n ≤ 40) (hit : Hit σ0 σ A n root T M e)
    (hQ : ∀ a W, σ a = none → WayOk n T M W → Q (.ref a) (σ.upd a (.list (W.map V.int)))) : (sem zba zbf (k + 1) true).run "" "road" [.ref A.sr, .int e] σ Q X := by
  refine ob61 hit.ex ?_
  intro bk bs O q dn p h g op ep me oe
  refine ob12 (g.bl.upL op) ?_
  intro L u
  have way := g.way op ep me oe u
  have wl : (e :: L).length ≤ 40 := zcA (m := 40) way.nod fun i hi => by have := way.inn i hi; lia
  have od' : ∀ y, O y = true → y ≠ root → M y ≠ e := fun y oy ny z => by
    rw [← z, (g.bl.mt y oy ny).1] at me
    have := (g.rng oy).1; lia
  have re : 0 ≤ e ∧ e < n := (g.gr _ _ (g.gr _ _ ep).1).2.2
  refine zbe (F := zkO) rfl ⟨rfl, ?_⟩
  simp only [zkO, zay, zak, zaF, zaj, zad, zac, zaW, zap, zaX, zaE, zaY, zaG, E_tt, E_ff, za2, za0, zaZ, zaL, za4, za1, zaU, zaV, zaC, zaD, zaM, zaI, zaH, E_m1, zaN, za3, zan, zaJ, zam, zao, E_b1, zaK, za5, zaP, zas, zar, zaq, zaB, zal, zaT, zav, I_r1, I_r2, I_r3, zaS, zau, zat, zaO, zag, zai, zah, zax, zaw, zaA, zaz, List.map_cons, List.map_nil, List.length_cons, List.length_nil, List.cons_append, List.nil_append, List.replicate, Nat.reduceAdd, Nat.reduceSub, Loc.get, zgz, zgs, zjs, zaa, tgOk, onT, zaf, true_and, zae, zss, zsz, zab]
  refine ⟨Nat.zero_le _, fun a ha => ?_⟩
  have s : ∀ {D : List V}, Sa σ0 (σ.upd a (.list D)) A n root (fun x => if x = e then p else bk x) bs O q := fun {D} => h.new ha
  simp only [ziG, zay, zak, zaF, zaj, zad, zac, zaW, zap, zaX, zaE, zaY, zaG, E_tt, E_ff, za2, za0, zaZ, zaL, za4, za1, zaU, zaV, zaC, zaD, zaM, zaI, zaH, E_m1, zaN, za3, zan, zaJ, zam, zao, E_b1, zaK, za5, zaP, zas, zar, zaq, zaB, zal, zaT, zav, I_r1, I_r2, I_r3, zaS, zau, zat, zaO, zag, zai, zah, zax, zaw, zaA, zaz, Loc.get, zgz, zgs, zjs, zaa, tgOk, onT, zaf, true_and, zae, zss, zsz, zab]
  refine zb5 (fun t ρ σ' => ∃ F y R, F ++ R = e :: L ∧ F.length = 2 * t ∧ ((y < 0 ∧ R = []) ∨ ((0 ≤ y ∧ y < n) ∧ ∃ R', R = y :: R' ∧ O (if y = e then p else bk y) = true ∧ Up M bk root (if y = e then p else bk y) R')) ∧ σ' = σ.upd a (.list (F.map V.int)) ∧ ρ = [some (.ref A.sr), some (.int y), some (.ref a)]) 40
    ⟨[], e, e :: L, rfl, rfl, .inr ⟨re, L, rfl, by rw [if_pos rfl]; exact op, by rw [if_pos rfl]; exact u⟩, rfl, rfl⟩ ?_ ?_
  · intro t ρ σ' zz68
    refine ob6 zz68 ?_
    clear zz68
    intro F y R ef lf _
    have := congrArg List.length ef
    rw [List.length_append] at this
    lia
  · intro t ρ σ' K zz69
    refine ob21 zz69 ?_
    clear zz69
    intro F y R ef lf hy ee204
    subst ee204
    intro ee205
    subst ee205
    intro hK
    simp only [Loc.get, zgz, zgs, zjs, zaa, tgOk, onT, zaf, true_and, zae, zss, zsz, zab]
    refine zaQ (a := decide (0 ≤ y)) rfl ?_
    show if decide (0 ≤ y) = true then _ else _
    rcases hy with ⟨hy, rfl⟩ | ⟨ry, R', rfl, ou, up⟩
    · rw [decide_eq_false (by lia)]
      refine zj2 (c := false = true) Bool.false_ne_true ?_
      simp only [ziH, zay, zak, zaF, zaj, zad, zac, zaW, zap, zaX, zaE, zaY, zaG, E_tt, E_ff, za2, za0, zaZ, zaL, za4, za1, zaU, zaV, zaC, zaD, zaM, zaI, zaH, E_m1, zaN, za3, zan, zaJ, zam, zao, E_b1, zaK, za5, zaP, zas, zar, zaq, zaB, zal, zaT, zav, I_r1, I_r2, I_r3, zaS, zau, zat, zaO, zag, zai, zah, zax, zaw, zaA, zaz, Loc.get, zgz, zgs, zjs, zaa, tgOk, onT, zaf, true_and, zae, zss, zsz, zab]
      rw [List.append_nil] at ef
      subst ef
      exact hQ a _ ha way
    · rw [decide_eq_true ry.1]
      refine zeZ (c := true = true) rfl ?_
      have lf2 := congrArg List.length ef
      rw [List.length_append, List.length_cons] at lf2
      simp only [ziN, zay, zak, zaF, zaj, zad, zac, zaW, zap, zaX, zaE, zaY, zaG, E_tt, E_ff, za2, za0, zaZ, zaL, za4, za1, zaU, zaV, zaC, zaD, zaM, zaI, zaH, E_m1, zaN, za3, zan, zaJ, zam, zao, E_b1, zaK, za5, zaP, zas, zar, zaq, zaB, zal, zaT, zav, I_r1, I_r2, I_r3, zaS, zau, zat, zaO, zag, zai, zah, zax, zaw, zaA, zaz, Loc.get, zgz, zgs, zjs, zaa, tgOk, onT, zaf, true_and, zae, zss, zsz, zab]
      refine zbc zaR (zbA zaR (by rw [List.length_map]; unfold zbb; lia) ?_)
      rw [zb8, show F.map V.int ++ [V.int y] = (F ++ [y]).map V.int by rw [List.map_append]; rfl]
      simp only [ziI, zay, zak, zaF, zaj, zad, zac, zaW, zap, zaX, zaE, zaY, zaG, E_tt, E_ff, za2, za0, zaZ, zaL, za4, za1, zaU, zaV, zaC, zaD, zaM, zaI, zaH, E_m1, zaN, za3, zan, zaJ, zam, zao, E_b1, zaK, za5, zaP, zas, zar, zaq, zaB, zal, zaT, zav, I_r1, I_r2, I_r3, zaS, zau, zat, zaO, zag, zai, zah, zax, zaw, zaA, zaz, Loc.get, zgz, zgs, zjs, zaa, tgOk, onT, zaf, true_and, zae, zss, zsz, zab]
      refine zbc zaR (s.back ry (zbA zaR (by rw [List.length_map, List.length_append, List.length_singleton]; unfold zbb; lia) ?_))
      generalize hu : (if y = e then p else bk y) = v at *
      rw [zb8, show (F ++ [y]).map V.int ++ [V.int v] = (F ++ [y, v]).map V.int by rw [List.map_append, List.map_append, List.append_assoc]; rfl]
      simp only [ziJ, zay, zak, zaF, zaj, zad, zac, zaW, zap, zaX, zaE, zaY, zaG, E_tt, E_ff, za2, za0, zaZ, zaL, za4, za1, zaU, zaV, zaC, zaD, zaM, zaI, zaH, E_m1, zaN, za3, zan, zaJ, zam, zao, E_b1, zaK, za5, zaP, zas, zar, zaq, zaB, zal, zaT, zav, I_r1, I_r2, I_r3, zaS, zau, zat, zaO, zag, zai, zah, zax, zaw, zaA, zaz, Loc.get, zgz, zgs, zjs, zaa, tgOk, onT, zaf, true_and, zae, zss, zsz, zab]
      refine s.at rfl rfl (s.back ry ?_)
      show idxV _ (.int (if y = e then p else bk y)) _ _
      rw [hu]
      refine zdR (s.ext _ _ hm) (g.rng ou).1 (by have := (g.rng ou).2; lia) (hK _ _ ?_)
      cases up with
      | root => exact ⟨F ++ [y, root], M root, [], by rw [List.append_nil]; exact ef, by rw [List.length_append]; show _ + 2 = _; lia, .inl ⟨g.rr.2, rfl⟩, rfl, rfl⟩
      | @step _ R2 nr u2 =>
        have lb := g.lab v ou nr
        have ne := od' v ou nr
        refine ⟨F ++ [y, v], M v, M v :: R2, by rw [List.append_assoc]; exact ef, by rw [List.length_append]; show _ + 2 = _; lia, .inr ⟨g.mr lb.1, R2, rfl, by rw [if_neg ne]; exact g.bl.nx v ou nr, by rw [if_neg ne]; exact u2⟩, rfl, rfl⟩
end
end Mine
end
section
set_option linter.unusedVariables false
set_option linter.unusedSimpArgs false
namespace Mine
open PySem
theorem zly {P : List (Int × Int)} (hd : Disj P) {p q : Int × Int} (hp : p ∈ P) (hq : q ∈ P) (h : Touch p q) : p = q := by
  induction P with
  | nil => cases hp
  | cons a r ih =>
    have hd' := List.pairwise_cons.mp hd
    rcases List.mem_cons.mp hp with rfl | hp' <;> rcases List.mem_cons.mp hq with rfl | hq'
    · rfl
    · exact absurd h (hd'.1 q hq')
    · exact absurd h.symm (hd'.1 p hp')
    · exact ih hd'.2 hp' hq'
theorem zd8 : ∀ {l l' : List Int}, l.Nodup → (∀ x ∈ l, x ∈ l') → l.length ≤ l'.length
  | [], _, _, _ => Nat.zero_le _
  | a :: l, l', h, hs => by
    refine ob14 (List.nodup_cons.mp h) ?_
    intro h1 h2
    have ha := hs a (List.mem_cons_self ..)
    have := zd8 (l' := l'.erase a) h2 fun x hx => (List.mem_erase_of_ne (fun e : x = a => h1 (e ▸ hx))).mpr (hs x (List.mem_cons_of_mem _ hx))
    rw [List.length_erase_of_mem ha] at this
    have := List.length_pos_of_mem ha
    rw [List.length_cons]; lia
theorem zde {n : Int} {P : List (Int × Int)} (ht : ∀ p ∈ P, zbi n p) (hd : Disj P) : (zbK P).Nodup := by
  unfold zbK
  rw [List.nodup_append]
  refine ⟨List.pairwise_map.mpr (hd.imp fun {p q} h e => h (.inl e)), List.pairwise_map.mpr (hd.imp fun {p q} h e => h (.inr (.inr (.inr e)))), ?_⟩
  intro a ha b hb e
  refine ob7 (List.mem_map.mp ha) ?_
  intro p hp ee206
  subst ee206
  refine ob7 (List.mem_map.mp hb) ?_
  intro q hq ee207
  subst ee207
  cases zly hd hp hq (.inr (.inl e))
  have := (ht p hp).2.1
  lia
structure Mt (n : Int) (T : List (Int × Int)) (M : Int → Int) : Prop where
  ok : ∀ p ∈ T, zbi n p
  back : ∀ i, 0 ≤ M i → M (M i) = i ∧ M i ∈ nb T i
section
variable {n : Int} {T P : List (Int × Int)} {M : Int → Int} {W : List Int}
theorem zb3 (ok : ∀ p ∈ T, zbi n p) (hs : ∀ p ∈ P, p ∈ T) (hd : Disj P) : Mt n T (mt P.reverse) := by
  have ht : ∀ p ∈ P.reverse, zbi n p := fun p hp => ok p (hs p (List.mem_reverse.mp hp))
  refine ⟨ok, fun i hi => ?_⟩
  rcases zgf ht hd.rev i with ⟨p, hp, h⟩ | ⟨_, h⟩
  · refine ob14 (zld ht hd.rev p hp) ?_
    intro m1 m2
    have hT := hs p (List.mem_reverse.mp hp)
    rcases h with ⟨rfl, h⟩ | ⟨rfl, h⟩
    · rw [h, m2]; exact ⟨rfl, mem_nb.mpr (.inl hT)⟩
    · rw [h, m1]; exact ⟨rfl, mem_nb.mpr (.inr hT)⟩
  · rw [h] at hi; lia
theorem mem_toldL {p : Int × Int} : p ∈ zbI n.toNat M ↔ (0 ≤ p.1 ∧ p.1 < n) ∧ p.1 < p.2 ∧ M p.1 = p.2 := by
  unfold zbI
  rw [List.mem_filterMap]
  constructor
  · intro zz70
    refine ob7 zz70 ?_
    clear zz70
    intro i hi e
    rw [List.mem_range] at hi
    split at e
    · rename_i h; cases e; exact ⟨by lia, h, rfl⟩
    · cases e
  · intro zz71
    refine ob16 zz71 ?_
    clear zz71
    intro h0 h1 h2
    refine ⟨p.1.toNat, List.mem_range.mpr (by lia), ?_⟩
    rw [Int.toNat_of_nonneg h0.1, if_pos (by rw [h2]; exact h1), h2]
theorem zhA (h : Mt n T M) : ∀ p ∈ zbI n.toNat M, p ∈ T := by
  intro p hp
  refine ob16 (mem_toldL.mp hp) ?_
  intro h0 h1 h2
  have := (h.back p.1 (by lia)).2
  rw [h2] at this
  rcases mem_nb.mp this with g | g
  · exact g
  · have := (h.ok _ g).2.1
    simp only at this; lia
theorem zeK (h : Mt n T M) : Disj (zbI n.toNat M) := by
  have key : ∀ p ∈ zbI n.toNat M, ∀ q ∈ zbI n.toNat M, Touch p q → p = q := by
    intro p hp q hq t
    refine ob16 (mem_toldL.mp hp) ?_
    intro p0 p1 p2
    refine ob16 (mem_toldL.mp hq) ?_
    intro q0 q1 q2
    have p3 := (h.back p.1 (by lia)).1
    have q3 := (h.back q.1 (by lia)).1
    rw [p2] at p3
    rw [q2] at q3
    rcases t with t | t | t | t
    · rw [t] at p2; exact Prod.ext t (p2.symm.trans q2)
    · rw [t, q3] at p2; lia
    · rw [t, q2] at p3; lia
    · rw [t, q3] at p3; exact Prod.ext p3.symm t
  refine List.Pairwise.imp_of_mem ?_ zbC
  intro p q hp hq hl t
  cases key p hp q hq t
  unfold zbx at hl; lia
theorem zcW (h : Mt n T M) {i : Int} : i ∈ zbK (zbI n.toNat M) ↔ 0 ≤ M i := by
  rw [mem_places]
  constructor
  · intro zz72
    refine ob7 zz72 ?_
    clear zz72
    intro p hp e
    refine ob16 (mem_toldL.mp hp) ?_
    intro p0 p1 p2
    rcases e with rfl | rfl
    · lia
    · have := (h.back p.1 (by lia)).1
      rw [p2] at this; lia
  · intro hi
    refine ob14 (h.back i hi) ?_
    intro b1 b2
    refine ob16 (zeB h.ok b2) ?_
    intro i0 m0 hne
    by_cases e : i < M i
    · exact ⟨(i, M i), mem_toldL.mpr ⟨i0, e, rfl⟩, .inl rfl⟩
    · exact ⟨(M i, i), mem_toldL.mpr ⟨m0, by simp only; lia, b1⟩, .inr rfl⟩
theorem ziR (h : Mt n T M) (hW : WayOk n T M W) {a : Int} (ha : a ∈ W) (hM : 0 ≤ M a) : M a ∈ W := by
  refine lift fun gg back => ?_
  obtain ⟨k, hk, e⟩ := List.getElem_of_mem ha
  refine back ?_
  clear back gg
  have e' : W[k]? = some a := by rw [List.getElem?_eq_getElem hk, e]
  have ev := hW.even
  by_cases hk1 : k % 2 = 1
  · have hk2 : k + 1 < W.length := by
      by_cases z : k = W.length - 1
      · subst z; have := hW.lst a e'; lia
      · lia
    have := (hW.stp k a _ e' (List.getElem?_eq_getElem hk2)).2.mpr hk1
    rw [this]; exact List.getElem_mem hk2
  · have hk0 : k ≠ 0 := fun z => by subst z; have := hW.fst a e'; lia
    have hk3 : k - 1 < W.length := by lia
    have g := hW.stp (k - 1) _ a (List.getElem?_eq_getElem hk3) (by rw [show k - 1 + 1 = k by lia]; exact e')
    have g2 := g.2.mpr (by lia)
    refine ob16 (zeB h.ok g.1) ?_
    intro _ a0 _
    have := (h.back W[k - 1] (by rw [g2]; lia)).1
    rw [g2] at this
    rw [this]; exact List.getElem_mem hk3
theorem zdI (hW : WayOk n T M W) (i : Int) : (i ∈ W ∧ ∃ j, mtB M (steps W).reverse i = j ∧ mtB M (steps W).reverse j = i ∧ j ∈ nb T i) ∨ (i ∉ W ∧ mtB M (steps W).reverse i = M i) := by
  refine ob14 (zfA hW.nod) ?_
  intro d1 d2
  have r2 : ∀ p ∈ (steps W).reverse, p.1 ≠ p.2 := fun p hp => d2 p (List.mem_reverse.mp hp)
  by_cases hi : i ∈ W
  · left
    refine ⟨hi, ?_⟩
    refine lift fun gg back => ?_
    refine ob7 (zeO hW.even i hi) ?_
    intro p hp e
    refine ob14 (zlQ (M := M) r2 d1.rev p (List.mem_reverse.mpr hp)) ?_
    intro m1 m2
    refine ob7 ((zeV W p.1 p.2).mp hp) ?_
    intro j j1 j2
    refine back ?_
    clear back gg
    have hn := (hW.stp _ _ _ j1 j2).1
    rcases e with rfl | rfl
    · exact ⟨p.2, m1, m2, hn⟩
    · exact ⟨p.1, m2, m1, zeU hn⟩
  · right
    refine ⟨hi, zjV fun p hp => ?_⟩
    refine ob14 (zih (List.mem_reverse.mp hp)) ?_
    intro s1 s2
    exact ⟨fun e => hi (e ▸ s1), fun e => hi (e ▸ s2)⟩
theorem zea (h : Mt n T M) (hW : WayOk n T M W) : Mt n T (mtB M (steps W).reverse) := by
  refine ⟨h.ok, fun i hi => ?_⟩
  rcases zdI hW i with ⟨_, j, e1, e2, e3⟩ | ⟨hi', e⟩
  · rw [e1]; exact ⟨e2, e3⟩
  · rw [e] at hi ⊢
    refine ob14 (h.back i hi) ?_
    intro b1 b2
    refine ob16 (zeB h.ok b2) ?_
    intro i0 _ _
    refine ⟨?_, b2⟩
    rcases zdI hW (M i) with ⟨m, _⟩ | ⟨_, e'⟩
    · have := ziR h hW m (by rw [b1]; lia)
      rw [b1] at this
      exact absurd this hi'
    · rw [e', b1]
theorem zgE (ok : ∀ p ∈ T, zbi n p) (hs : ∀ p ∈ P, p ∈ T) (hd : Disj P) (hW : WayOk n T (mt P.reverse) W) : P.length < (zbI n.toNat (mtB (mt P.reverse) (steps W).reverse)).length := by
  have hM := zb3 ok hs hd
  have hM' := zea hM hW
  have ht : ∀ p ∈ P, zbi n p := fun p hp => ok p (hs p hp)
  have l0 : 0 < W.length := by have := hW.two; lia
  have w0 := hW.fst _ (List.getElem?_eq_getElem l0)
  have wm : W[0] ∈ W := List.getElem_mem l0
  have in0 := hW.inn _ wm
  have hnd : (W[0] :: zbK P).Nodup := List.nodup_cons.mpr ⟨(zil ht hd _).mp w0, zde ht hd⟩
  have := zd8 (l' := zbK (zbI n.toNat (mtB (mt P.reverse) (steps W).reverse))) hnd fun x hx => by
    rw [zcW hM']
    have key : x ∈ W → 0 ≤ mtB (mt P.reverse) (steps W).reverse x := fun hw => by
      rcases zdI hW x with ⟨_, j, e1, _, e3⟩ | ⟨no, _⟩
      · rw [e1]; exact (zeB ok e3).2.1.1
      · exact absurd hw no
    rcases List.mem_cons.mp hx with rfl | hx
    · exact key wm
    · by_cases hw : x ∈ W
      · exact key hw
      · rcases zdI hW x with ⟨hw', _⟩ | ⟨_, e⟩
        · exact absurd hw' hw
        · rw [e]
          have : ¬ mt P.reverse x < 0 := fun z => (zil ht hd x).mp z hx
          lia
  simp only [zbK, List.length_cons, List.length_append, List.length_map] at this
  lia
end
end Mine
end
section
set_option linter.unusedVariables false
set_option linter.unusedSimpArgs false
namespace Mine
open PySem
section
variable {k : Nat} {σ : Store} {Q : V → Store → Prop} {X : XP} {x d r l : Addr} {rs : List Addr} {n : Int} {T P : List (Int × Int)}
theorem zeM : (zba "" "better").isSome = true := rfl
theorem zkW : (zba "" "grown").isSome = true := rfl
theorem zhB : (zba "" "most").isSome = true := rfl
theorem zl0 {M : Int → Int} {W : List Int} (h : WayOk n T M W) (hn : n ≤ 40) : W.length ≤ 40 := zcA (m := 40) h.nod fun i hi => by have := h.inn i hi; lia
noncomputable def Full (n : Int) (T : List (Int × Int)) (M : Int → Int) : Prop := ∀ root, 0 ≤ root → root < n → M root < 0 → zlI T M root
theorem zn6 (ok : ∀ p ∈ T, zbi n p) : Gr n (Nb T) := fun i j h => by
  have := zeB ok h
  exact ⟨zeU h, this.2.2, this.1⟩
theorem Sg.start {M : Int → Int} (h : Mt n T M) {root : Int} (h0 : 0 ≤ root ∧ root < n) (hf : M root < 0) : Sg n (Nb T) M (fun _ => -1) (fun i => i) (fun i => decide (i = root)) root [] [root] :=
  ⟨Bl.init, zn6 h.ok, h.back, ⟨h0, hf⟩, fun v o e => absurd (of_decide_eq_true o) e, fun x hx => absurd hx (by decide), fun x hx => absurd hx (by decide), fun v => by rw [List.nil_append, List.mem_singleton, decide_eq_true_eq], List.nodup_cons.mpr ⟨List.not_mem_nil, .nil⟩, fun w _ hw => absurd hw (by decide)⟩
theorem zd1 (hx : NetAt σ x d r rs n T) (hl : σ l = some (.list (P.map pr))) (hs : ∀ p ∈ P, p ∈ T) (hd : Disj P)
    (h1 : ∀ σ' a W, Ext σ σ' → σ a = none → σ' a = some (.list (W.map V.int)) → WayOk n T (mt P.reverse) W → Q (.ref a) σ')
    (h2 : ∀ σ', Ext σ σ' → Full n T (mt P.reverse) → Q .none σ') : (sem zba zbf (k + 5) true).run "" "better" [.ref x, .ref l] σ Q X := by
  have hlo := hx.lo
  have hhi := hx.hi
  have hM := zb3 hx.ok hs hd
  refine zbe (F := zgC) rfl ⟨rfl, ?_⟩
  simp only [zgC, zay, zak, zaF, zaj, zad, zac, zaW, zap, zaX, zaE, zaY, zaG, E_tt, E_ff, za2, za0, zaZ, zaL, za4, za1, zaU, zaV, zaC, zaD, zaM, zaI, zaH, E_m1, zaN, za3, zan, zaJ, zam, zao, E_b1, zaK, za5, zaP, zas, zar, zaq, zaB, zal, zaT, zav, I_r1, I_r2, I_r3, zaS, zau, zat, zaO, zag, zai, zah, zax, zaw, zaA, zaz, List.map_cons, List.map_nil, List.length_cons, List.length_nil, List.cons_append, List.nil_append, List.replicate, Nat.reduceAdd, Nat.reduceSub, Loc.get, zgz, zgs, zjs, zaa, tgOk, onT, zaf, true_and, zae, zss, zsz, zab, zbz, zif]
  refine zfF hx hl hs hd fun f hf => ?_
  have hE := (Ext.rfl (σ := σ)).upd (o := .list (zbj n.toNat (mt P.reverse))) hf
  have hf1 : (σ.upd f (.list (zbj n.toNat (mt P.reverse)))) f = some (.list (zbj n.toNat (mt P.reverse))) := zaR
  generalize σ.upd f (.list (zbj n.toNat (mt P.reverse))) = σ1 at *
  generalize mt P.reverse = M at *
  have hx1 := hx.ext hE
  simp only [zfX, zay, zak, zaF, zaj, zad, zac, zaW, zap, zaX, zaE, zaY, zaG, E_tt, E_ff, za2, za0, zaZ, zaL, za4, za1, zaU, zaV, zaC, zaD, zaM, zaI, zaH, E_m1, zaN, za3, zan, zaJ, zam, zao, E_b1, zaK, za5, zaP, zas, zar, zaq, zaB, zal, zaT, zav, I_r1, I_r2, I_r3, zaS, zau, zat, zaO, zag, zai, zah, zax, zaw, zaA, zaz, Loc.get, zgz, zgs, zjs, zaa, tgOk, onT, zaf, true_and, zae, zss, zsz, zab]
  refine zdc hx1 ⟨by lia, ?_⟩
  refine zbp (fun t ρ σ' => Ext σ1 σ' ∧ (∀ root : Int, 0 ≤ root → root < t → M root < 0 → zlI T M root) ∧ ∃ t3 t4 t5, ρ = [some (.ref x), some (.ref l), some (.ref f), t3, t4, t5])
    ⟨.rfl, fun root h0 h1 => by lia, _, _, _, rfl⟩ (fun _ _ _ _ => trivial) ?_ ?_
  · intro t v ρ σ' K hv zz73
    refine ob66 zz73 ?_
    clear zz73
    intro hE1 hall t3 t4 t5 ee208
    subst ee208
    intro hK
    refine ob14 (zbH hv) ?_
    intro ee209
    subst ee209
    intro ht
    rw [Int.zero_add] at ht ⊢
    have hx2 := hx1.ext hE1
    have hf2 := hE1 _ _ hf1
    simp only [zf3, zay, zak, zaF, zaj, zad, zac, zaW, zap, zaX, zaE, zaY, zaG, E_tt, E_ff, za2, za0, zaZ, zaL, za4, za1, zaU, zaV, zaC, zaD, zaM, zaI, zaH, E_m1, zaN, za3, zan, zaJ, zam, zao, E_b1, zaK, za5, zaP, zas, zar, zaq, zaB, zal, zaT, zav, I_r1, I_r2, I_r3, zaS, zau, zat, zaO, zag, zai, zah, zax, zaw, zaA, zaz, Loc.get, zgz, zgs, zjs, zaa, tgOk, onT, zaf, true_and, zae, zss, zsz, zab]
    refine zdR hf2 (by lia) (by lia) (zaQ (a := decide (M t < 0)) rfl ?_)
    have more : ∀ {σ3 : Store} {t4 t5 : Option V}, Ext σ1 σ3 → (M t < 0 → zlI T M t) → K [some (.ref x), some (.ref l), some (.ref f), some (.int t), t4, t5] σ3 := fun {σ3 t4 t5} e g => by
      refine hK _ _ ⟨e, fun root h0 h1 hf => ?_, _, _, _, rfl⟩
      by_cases z : root = t
      · subst z; exact g hf
      · exact hall root h0 (by lia) hf
    by_cases hM0 : M t < 0
    · rw [decide_eq_true hM0]
      refine zch ?_
      simp only [zay, zak, zaF, zaj, zad, zac, zaW, zap, zaX, zaE, zaY, zaG, E_tt, E_ff, za2, za0, zaZ, zaL, za4, za1, zaU, zaV, zaC, zaD, zaM, zaI, zaH, E_m1, zaN, za3, zan, zaJ, zam, zao, E_b1, zaK, za5, zaP, zas, zar, zaq, zaB, zal, zaT, zav, I_r1, I_r2, I_r3, zaS, zau, zat, zaO, zag, zai, zah, zax, zaw, zaA, zaz, Loc.get, zgz, zgs, zjs, zaa, tgOk, onT, zaf, true_and, zae, zss, zsz, zab, zbz, zni]
      intro sr ds hsr hds hne
      have sb : Sb σ' ((σ'.upd ds (.ns [])).upd sr (.inst "Search" ds)) sr ds [] := ⟨(Ext.rfl.upd hds).upd hsr, zaR, (za7 (Ne.symm hne)).trans zaR, hds⟩
      refine zk5 hx2 sb fun σ2 A sa e1 e2 e3 e4 => ⟨rfl, ?_⟩
      subst e1 e2 e3 e4
      simp only [zfZ, zay, zak, zaF, zaj, zad, zac, zaW, zap, zaX, zaE, zaY, zaG, E_tt, E_ff, za2, za0, zaZ, zaL, za4, za1, zaU, zaV, zaC, zaD, zaM, zaI, zaH, E_m1, zaN, za3, zan, zaJ, zam, zao, E_b1, zaK, za5, zaP, zas, zar, zaq, zaB, zal, zaT, zav, I_r1, I_r2, I_r3, zaS, zau, zat, zaO, zag, zai, zah, zax, zaw, zaA, zaz, Loc.get, zgz, zgs, zjs, zaa, tgOk, onT, zaf, true_and, zae, zss, zsz, zab]
      refine zbl sa.top sa.dic ⟨⟨rfl, rfl⟩, zjh hx2 sa hf2 (Sg.start hM ⟨by lia, ht⟩ hM0) (fun σ3 w e hit => ?_) fun σ3 e3 dead => ?_⟩
      · have e0 : 0 ≤ e := by
          refine ob67 hit.ex ?_
          intro _ _ _ _ _ _ _ g _ ep _
          exact (g.gr _ _ (g.gr _ _ ep).1).2.2.1
        have e3 : Ext σ' σ3 := by
          refine ob68 hit.ex ?_
          intro _ _ _ _ _ _ s _
          exact s.ext
        simp only [zej, zay, zak, zaF, zaj, zad, zac, zaW, zap, zaX, zaE, zaY, zaG, E_tt, E_ff, za2, za0, zaZ, zaL, za4, za1, zaU, zaV, zaC, zaD, zaM, zaI, zaH, E_m1, zaN, za3, zan, zaJ, zam, zao, E_b1, zaK, za5, zaP, zas, zar, zaq, zaB, zal, zaT, zav, I_r1, I_r2, I_r3, zaS, zau, zat, zaO, zag, zai, zah, zax, zaw, zaA, zaz, Loc.get, zgz, zgs, zjs, zaa, tgOk, onT, zaf, true_and, zae, zss, zsz, zab]
        refine zaQ (a := decide (0 ≤ e)) rfl ?_
        rw [decide_eq_true e0]
        refine zch ?_
        simp only [zay, zak, zaF, zaj, zad, zac, zaW, zap, zaX, zaE, zaY, zaG, E_tt, E_ff, za2, za0, zaZ, zaL, za4, za1, zaU, zaV, zaC, zaD, zaM, zaI, zaH, E_m1, zaN, za3, zan, zaJ, zam, zao, E_b1, zaK, za5, zaP, zas, zar, zaq, zaB, zal, zaT, zav, I_r1, I_r2, I_r3, zaS, zau, zat, zaO, zag, zai, zah, zax, zaw, zaA, zaz, Loc.get, zgz, zgs, zjs, zaa, tgOk, onT, zaf, true_and, zae, zss, zsz, zab, zbz, zma]
        refine zjJ (A := { A with w := w }) hf2 hhi hit fun a W ha hW => ?_
        exact h1 _ a W (((hE.trans hE1).trans e3).upd ((hE.trans hE1).none (e3.none ha))) ((hE.trans hE1).none (e3.none ha)) zaR hW
      · simp only [zej, zay, zak, zaF, zaj, zad, zac, zaW, zap, zaX, zaE, zaY, zaG, E_tt, E_ff, za2, za0, zaZ, zaL, za4, za1, zaU, zaV, zaC, zaD, zaM, zaI, zaH, E_m1, zaN, za3, zan, zaJ, zam, zao, E_b1, zaK, za5, zaP, zas, zar, zaq, zaB, zal, zaT, zav, I_r1, I_r2, I_r3, zaS, zau, zat, zaO, zag, zai, zah, zax, zaw, zaA, zaz, Loc.get, zgz, zgs, zjs, zaa, tgOk, onT, zaf, true_and, zae, zss, zsz, zab]
        refine zaQ (a := decide ((0 : Int) ≤ -1)) rfl (zbv ?_)
        exact more (hE1.trans e3) fun _ => dead
    · rw [decide_eq_false hM0]
      exact zbv (more hE1 fun z => absurd z hM0)
  · intro ρ σ' zz74
    refine ob66 zz74 ?_
    clear zz74
    intro hE1 hall t3 t4 t5 ee210
    subst ee210
    rw [List.length_map, zcU] at hall
    simp only [zfY, zay, zak, zaF, zaj, zad, zac, zaW, zap, zaX, zaE, zaY, zaG, E_tt, E_ff, za2, za0, zaZ, zaL, za4, za1, zaU, zaV, zaC, zaD, zaM, zaI, zaH, E_m1, zaN, za3, zan, zaJ, zam, zao, E_b1, zaK, za5, zaP, zas, zar, zaq, zaB, zal, zaT, zav, I_r1, I_r2, I_r3, zaS, zau, zat, zaO, zag, zai, zah, zax, zaw, zaA, zaz, Loc.get, zgz, zgs, zjs, zaa, tgOk, onT, zaf, true_and, zae, zss, zsz, zab]
    exact h2 _ (hE.trans hE1) fun root h0 h1 hf => hall root h0 (by lia) hf
theorem zjg (hx : NetAt σ x d r rs n T) (hl : σ l = some (.list (P.map pr))) (hs : ∀ p ∈ P, p ∈ T) (hd : Disj P) (hp : P.Pairwise zbx)
    (hQ : ∀ σ' a P', Ext σ σ' → (a = l ∨ σ a = none) → σ' a = some (.list (P'.map pr)) → (∀ p ∈ P', p ∈ T) → Disj P' → P'.Pairwise zbx → Full n T (mt P'.reverse) → Q (.ref a) σ') : (sem zba zbf (k + 6) true).run "" "grown" [.ref x, .ref l] σ Q X := by
  have hlo := hx.lo
  have hhi := hx.hi
  refine zbe (F := zh8) rfl ⟨rfl, ?_⟩
  simp only [zh8, zay, zak, zaF, zaj, zad, zac, zaW, zap, zaX, zaE, zaY, zaG, E_tt, E_ff, za2, za0, zaZ, zaL, za4, za1, zaU, zaV, zaC, zaD, zaM, zaI, zaH, E_m1, zaN, za3, zan, zaJ, zam, zao, E_b1, zaK, za5, zaP, zas, zar, zaq, zaB, zal, zaT, zav, I_r1, I_r2, I_r3, zaS, zau, zat, zaO, zag, zai, zah, zax, zaw, zaA, zaz, List.map_cons, List.map_nil, List.length_cons, List.length_nil, List.cons_append, List.nil_append, List.replicate, Nat.reduceAdd, Nat.reduceSub, Loc.get, zgz, zgs, zjs, zaa, tgOk, onT, zaf, true_and, zae, zss, zsz, zab, zbz, zeM]
  have fin : ∀ {σ' : Store} {v : V}, (v = .none ∧ Full n T (mt P.reverse)) ∨ (∃ a W, v = .ref a ∧ σ' a = some (.list (W.map V.int)) ∧ WayOk n T (mt P.reverse) W) → Ext σ σ' →
      wpSs (sem zba zbf (k + 5)) true zfo [some (.ref x), some (.ref l), some v] σ' (fun _ σ' => Q .none σ') Q (fun c a _ σ' => X c a σ') := fun {σ' v} hv hE => by
    simp only [zfo, zay, zak, zaF, zaj, zad, zac, zaW, zap, zaX, zaE, zaY, zaG, E_tt, E_ff, za2, za0, zaZ, zaL, za4, za1, zaU, zaV, zaC, zaD, zaM, zaI, zaH, E_m1, zaN, za3, zan, zaJ, zam, zao, E_b1, zaK, za5, zaP, zas, zar, zaq, zaB, zal, zaT, zav, I_r1, I_r2, I_r3, zaS, zau, zat, zaO, zag, zai, zah, zax, zaw, zaA, zaz, Loc.get, zgz, zgs, zjs, zaa, tgOk, onT, zaf, true_and, zae, zss, zsz, zab]
    refine zb5 (fun t ρ σ' => ∃ P' l' v, Ext σ σ' ∧ (l' = l ∨ σ l' = none) ∧ σ' l' = some (.list (P'.map pr)) ∧ (∀ p ∈ P', p ∈ T) ∧ Disj P' ∧ P'.Pairwise zbx ∧ t ≤ P'.length ∧ ((v = .none ∧ Full n T (mt P'.reverse)) ∨ (∃ a W, v = .ref a ∧ σ' a = some (.list (W.map V.int)) ∧ WayOk n T (mt P'.reverse) W)) ∧ ρ = [some (.ref x), some (.ref l'), some v]) 40
      ⟨P, l, v, hE, .inl rfl, hE _ _ hl, hs, hd, hp, Nat.zero_le _, hv, rfl⟩ ?_ ?_
    · intro t ρ σ' zz75
      refine ob69 zz75 ?_
      clear zz75
      intro P' l' v _ _ _ s' d' _ ht _
      exact Nat.le_trans ht (zeG (fun p hp => hx.ok p (s' p hp)) d' (by lia) hhi)
    · intro t ρ σ' K zz76
      refine ob70 zz76 ?_
      clear zz76
      intro P' l' v e' fr hl' s' d' p' ht hv ee211
      subst ee211
      intro hK
      simp only [Loc.get, zgz, zgs, zjs, zaa, tgOk, onT, zaf, true_and, zae, zss, zsz, zab, zjk, zbB]
      rcases hv with ⟨rfl, hF⟩ | ⟨a, W, rfl, ha, hW⟩
      · refine zj2 (c := (!true) = true) (by decide) ?_
        simp only [zhp, zay, zak, zaF, zaj, zad, zac, zaW, zap, zaX, zaE, zaY, zaG, E_tt, E_ff, za2, za0, zaZ, zaL, za4, za1, zaU, zaV, zaC, zaD, zaM, zaI, zaH, E_m1, zaN, za3, zan, zaJ, zam, zao, E_b1, zaK, za5, zaP, zas, zar, zaq, zaB, zal, zaT, zav, I_r1, I_r2, I_r3, zaS, zau, zat, zaO, zag, zai, zah, zax, zaw, zaA, zaz, Loc.get, zgz, zgs, zjs, zaa, tgOk, onT, zaf, true_and, zae, zss, zsz, zab]
        exact hQ _ _ _ e' fr hl' s' d' p' hF
      · refine zeZ (c := (!false) = true) rfl ?_
        simp only [zhu, zay, zak, zaF, zaj, zad, zac, zaW, zap, zaX, zaE, zaY, zaG, E_tt, E_ff, za2, za0, zaZ, zaL, za4, za1, zaU, zaV, zaC, zaD, zaM, zaI, zaH, E_m1, zaN, za3, zan, zaJ, zam, zao, E_b1, zaK, za5, zaP, zas, zar, zaq, zaB, zal, zaT, zav, I_r1, I_r2, I_r3, zaS, zau, zat, zaO, zag, zai, zah, zax, zaw, zaA, zaz, Loc.get, zgz, zgs, zjs, zaa, tgOk, onT, zaf, true_and, zae, zss, zsz, zab, zbz, zjC]
        have hlen := zl0 hW hhi
        refine zhz (hx.ext e') hl' s' d' ha (by lia) hW fun σ2 b e2 hb hb2 => ?_
        simp only [zhq, zay, zak, zaF, zaj, zad, zac, zaW, zap, zaX, zaE, zaY, zaG, E_tt, E_ff, za2, za0, zaZ, zaL, za4, za1, zaU, zaV, zaC, zaD, zaM, zaI, zaH, E_m1, zaN, za3, zan, zaJ, zam, zao, E_b1, zaK, za5, zaP, zas, zar, zaq, zaB, zal, zaT, zav, I_r1, I_r2, I_r3, zaS, zau, zat, zaO, zag, zai, zah, zax, zaw, zaA, zaz, Loc.get, zgz, zgs, zjs, zaa, tgOk, onT, zaf, true_and, zae, zss, zsz, zab, zbz, zeM]
        have hM' := zea (zb3 hx.ok s' d') hW
        have hmore := zgE hx.ok s' d' hW
        have s2 := zhA hM'
        have d2 := zeK hM'
        have p2 := zbC (n := n.toNat) (M := mtB (mt P'.reverse) (steps W).reverse)
        generalize zbI n.toNat (mtB (mt P'.reverse) (steps W).reverse) = P2 at *
        refine zd1 (hx.ext (e'.trans e2)) hb2 s2 d2 ?_ ?_
        · intro σ3 a3 W3 e3 _ ha3 hW3
          exact hK _ _ ⟨P2, b, _, (e'.trans e2).trans e3, .inr (e'.none hb), e3 _ _ hb2, s2, d2, p2, by lia, .inr ⟨a3, W3, rfl, ha3, hW3⟩, rfl⟩
        · intro σ3 e3 hF
          exact hK _ _ ⟨P2, b, _, (e'.trans e2).trans e3, .inr (e'.none hb), e3 _ _ hb2, s2, d2, p2, by lia, .inl ⟨rfl, hF⟩, rfl⟩
  refine zd1 hx hl hs hd ?_ ?_
  · intro σ3 a3 W3 e3 _ ha3 hW3
    exact fin (.inr ⟨a3, W3, rfl, ha3, hW3⟩) e3
  · intro σ3 e3 hF
    exact fin (.inl ⟨rfl, hF⟩) e3
theorem zjW (hx : NetAt σ x d r rs n T)
    (hQ : ∀ σ' a P', Ext σ σ' → σ a = none → σ' a = some (.list (P'.map pr)) → (∀ p ∈ P', p ∈ T) → Disj P' → P'.Pairwise zbx → Full n T (mt P'.reverse) → Q (.ref a) σ') : (sem zba zbf (k + 7) true).run "" "most" [.ref x] σ Q X := by
  refine zbe (F := zkP) rfl ⟨rfl, ?_⟩
  simp only [zkP, zay, zak, zaF, zaj, zad, zac, zaW, zap, zaX, zaE, zaY, zaG, E_tt, E_ff, za2, za0, zaZ, zaL, za4, za1, zaU, zaV, zaC, zaD, zaM, zaI, zaH, E_m1, zaN, za3, zan, zaJ, zam, zao, E_b1, zaK, za5, zaP, zas, zar, zaq, zaB, zal, zaT, zav, I_r1, I_r2, I_r3, zaS, zau, zat, zaO, zag, zai, zah, zax, zaw, zaA, zaz, List.map_cons, List.map_nil, List.length_cons, List.length_nil, List.cons_append, List.nil_append, List.replicate, Nat.reduceAdd, Nat.reduceSub, Loc.get, zgz, zgs, zjs, zaa, tgOk, onT, zaf, true_and, zae, zss, zsz, zab, zbz, zkW]
  refine ⟨by simp [zbb], fun a ha => ?_⟩
  refine zjg (P := []) (hx.upd ha) zaR (by simp) .nil .nil fun σ' b P' e fr => hQ σ' b P' ((Ext.rfl.upd ha).trans e) (fr.elim (fun z => z ▸ ha) fun z => (zib z).2)
end
end Mine
end
section
set_option linter.unusedVariables false
set_option linter.unusedSimpArgs false
namespace Mine
open PySem
section
variable {n : Int} {T P : List (Int × Int)} {M : Int → Int}
noncomputable def Pg (T P : List (Int × Int)) : Prop := (∀ p ∈ P, p ∈ T) ∧ Disj P
noncomputable def Bst (T P : List (Int × Int)) : Prop := Pg T P ∧ ∀ P', Pg T P' → P'.length ≤ P.length
theorem zkr (nd : (zbK P).Nodup) (h : ∀ i, i ∈ zbK P ↔ 0 ≤ M i) (hr : ∀ i, 0 ≤ M i → 0 ≤ i ∧ i < n) : cov M n.toNat = 2 * P.length := by
  have hl : (zbK P).length = 2 * P.length := by
    unfold zbK
    rw [List.length_append, List.length_map, List.length_map]; lia
  rw [← hl]
  unfold cov cnt
  rw [List.countP_eq_length_filter, ← List.length_map (f := fun i : Nat => (i : Int))]
  apply Nat.le_antisymm
  · refine zd8 (List.pairwise_map.mpr ((List.nodup_range.filter _).imp fun h e => h (by lia))) fun x hx => ?_
    refine ob7 (List.mem_map.mp hx) ?_
    intro i hi ee212
    subst ee212
    exact (h _).mpr (of_decide_eq_true (List.mem_filter.mp hi).2)
  · refine zd8 nd fun x hx => ?_
    have hx := (h x).mp hx
    have r := hr x hx
    have e := Int.toNat_of_nonneg r.1
    exact List.mem_map.mpr ⟨x.toNat, List.mem_filter.mpr ⟨List.mem_range.mpr (by lia), by rw [e]; exact decide_eq_true hx⟩, e⟩
theorem Mt.mg (h : Mt n T M) : Mg n.toNat (Nb T) M := fun i hi => by
  have b := h.back i hi
  have r := zeB h.ok b.2
  exact ⟨⟨r.1.1, by lia⟩, b.1, b.2⟩
theorem Mt.cov (h : Mt n T M) : cov M n.toNat = 2 * (zbI n.toNat M).length :=
  zkr (zde (fun p hp => h.ok p (zhA h p hp)) (zeK h)) (fun i => zcW h) fun i hi => (zeB h.ok (h.back i hi).2).1
theorem Pg.ok (ok : ∀ p ∈ T, zbi n p) (h : Pg T P) : ∀ p ∈ P, zbi n p := fun p hp => ok p (h.1 p hp)
theorem Pg.cov (ok : ∀ p ∈ T, zbi n p) (h : Pg T P) : cov (mt P.reverse) n.toNat = 2 * P.length := by
  refine zkr (zde (h.ok ok) h.2) (fun i => ?_) fun i hi => (zeB ok ((zb3 ok h.1 h.2).back i hi).2).1
  have := zil (h.ok ok) h.2 i
  exact ⟨fun m => Classical.byContradiction fun z => this.mp (by lia) m, fun z => Classical.byContradiction fun m => by have := this.mpr m; lia⟩
theorem Mt.pg (h : Mt n T M) : Pg T (zbI n.toNat M) := ⟨zhA h, zeK h⟩
theorem Pg.sort (ok : ∀ p ∈ T, zbi n p) (h : Pg T P) : ∃ P', Pg T P' ∧ P'.Pairwise zbx ∧ P'.length = P.length ∧ ∀ i, i ∈ zbK P' → i ∈ zbK P := by
  have v := zb3 ok h.1 h.2
  have := v.cov
  rw [h.cov ok] at this
  exact ⟨_, v.pg, zbC, by lia, fun i hi => Classical.byContradiction fun z => by have := (zcW v).mp hi; have := (zil (h.ok ok) h.2 i).mpr z; lia⟩
theorem zlo (ok : ∀ p ∈ T, zbi n p) (h : Pg T P) (f : Full n T (mt P.reverse)) : Bst T P := by
  refine ⟨h, fun P' h' => Classical.byContradiction fun no => ?_⟩
  have c1 := h.cov ok
  have c2 := h'.cov ok
  obtain ⟨N, hN, all, r, rr, fr, nr⟩ := Mg.cover (fun i j e => ⟨zeU e, (zeB ok e).2.2⟩) (zb3 ok h.1 h.2).mg ((n.toNat + 1) * n.toNat + n.toNat + 1) (zb3 ok h'.1 h'.2).mg (by rw [c1, c2]; lia) (Nat.lt_of_lt_of_le (Nat.lt_succ_self _) (Nat.le_trans (Nat.le_add_right _ _) (Nat.le_add_right _ _)))
  exact f r rr.1 (by lia) fr N (fun i hi => (hN i hi).2) all nr
theorem Bst.take (ok : ∀ p ∈ T, zbi n p) (h : Bst T P) {i j : Int} (hij : Nb T i j) : ∃ P', Bst T P' ∧ i ∈ zbK P' ∧ P'.Pairwise zbx := by
  have v := zb3 ok h.1.1 h.1.2
  have cM := h.1.cov ok
  have fin : ∀ N : Int → Int, Mg n.toNat (Nb T) N → Mine.cov (mt P.reverse) n.toNat ≤ Mine.cov N n.toNat → 0 ≤ N i → ∃ P', Bst T P' ∧ i ∈ zbK P' ∧ P'.Pairwise zbx := fun N hN hc hi => by
    have v' : Mt n T N := ⟨ok, fun x hx => (hN x hx).2⟩
    have := v'.cov
    exact ⟨_, ⟨v'.pg, fun P' h' => Nat.le_trans (h.2 P' h') (by lia)⟩, (zcW v').mpr hi, zbC⟩
  have g := v.mg
  clear cM
  generalize mt P.reverse = M at *
  by_cases hi : 0 ≤ M i
  · exact fin M g (Nat.le_refl _) hi
  refine ob16 (zeB ok hij) ?_
  intro ri rj ne
  have zi : M j ≠ i := fun e => hi (by have := (g j (by lia)).2.1; rw [e] at this; lia)
  have zj : M j ≠ j := fun e => by
    have := (g j (by lia)).2.2
    rw [e] at this
    exact (zeB ok this).2.2 rfl
  let N : Int → Int := fun x => if x = i then j else if x = j then i else if x = M j then -1 else M x
  have v1 : N i = j := if_pos rfl
  have v2 : N j = i := (if_neg (Ne.symm ne)).trans (if_pos rfl)
  have v3 : N (M j) = -1 := (if_neg zi).trans ((if_neg zj).trans (if_pos rfl))
  have v4 : ∀ x, x ≠ i → x ≠ j → x ≠ M j → N x = M x := fun x a b c => (if_neg a).trans ((if_neg b).trans (if_neg c))
  have hN : Mg n.toNat (Nb T) N := g.put (z := M j) ⟨ri.1, by lia⟩ ⟨rj.1, by lia⟩ hij (zeU hij) v1 v2 (.inr (by rw [v3]; decide)) v4 fun x hx a b c => by
    have gx := (g x hx).2.1
    exact ⟨fun e => hi (by rw [← e, gx]; have := (g x hx).1.1; lia), fun e => c (by rw [← e, gx]), fun e => b (by rw [← gx, e, (g j (by lia)).2.1])⟩
  refine fin N hN ?_ (by rw [v1]; exact rj.1)
  have le : ∀ x, x ≠ i → x ≠ M j → decide (0 ≤ N x) = decide (0 ≤ M x) ∨ x = j := fun x a c => by
    by_cases b : x = j
    · exact .inr b
    · exact .inl (by rw [v4 x a b c])
  by_cases hj : 0 ≤ M j
  · have rz := (g (M j) (by rw [(g j hj).2.1]; exact rj.1)).1
    refine Nat.le_of_eq (zgn ri.1 (by lia) rz.1 rz.2 (Ne.symm zi) (decide_eq_false hi) (decide_eq_true (by rw [v1]; exact rj.1)) (decide_eq_true (by rw [(g j hj).2.1]; exact rj.1)) (decide_eq_false (by rw [v3]; decide)) fun x a c => ?_).symm
    rcases le x a c with e | e
    · exact e
    · rw [e, v2, decide_eq_true ri.1, decide_eq_true hj]
  · refine zhd fun x h0 h1 hx => ?_
    by_cases a : x = i
    · rw [a, v1]; exact decide_eq_true rj.1
    rcases le x a (by lia) with e | e
    · rw [e]; exact hx
    · rw [e, v2]; exact decide_eq_true ri.1
theorem zdK : ∀ {T P : List (Int × Int)}, T.Pairwise zbx → P.Pairwise zbx → (∀ p ∈ P, p ∈ T) → P.Sublist T
  | [], P, _, _, h => by rw [List.eq_nil_iff_forall_not_mem.mpr fun p hp => absurd (h p hp) List.not_mem_nil]; exact List.nil_sublist _
  | t :: T, [], _, _, _ => List.nil_sublist _
  | t :: T, p :: P, hT, hP, h => by
    have hT' := List.pairwise_cons.mp hT
    have hP' := List.pairwise_cons.mp hP
    by_cases e : p = t
    · subst e
      refine (zdK hT'.2 hP'.2 fun q hq => ?_).cons_cons p
      rcases List.mem_cons.mp (h q (List.mem_cons_of_mem _ hq)) with z | z
      · have := hP'.1 q hq; rw [z] at this; unfold zbx at this; lia
      · exact z
    · have hp := (List.mem_cons.mp (h p (List.mem_cons_self ..))).resolve_left e
      refine (zdK hT'.2 hP fun q hq => ?_).cons t
      rcases List.mem_cons.mp (h q hq) with z | z
      · have l1 := hT'.1 p hp
        rcases List.mem_cons.mp hq with y | y
        · exact absurd (y.symm.trans z) e
        · have l2 := hP'.1 q y
          rw [z] at l2
          unfold zbx at l1 l2; lia
      · exact z
noncomputable def fr (t : Int × Int) (L : List (Int × Int)) : Bool := !(L.any fun p => (t.1 == p.1 || t.1 == p.2) || (t.2 == p.1 || t.2 == p.2))
theorem fr_iff {t : Int × Int} {L : List (Int × Int)} : fr t L = true ↔ ∀ p ∈ L, ¬ Touch p t := by
  unfold fr
  rw [Bool.not_eq_true', List.any_eq_false]
  refine ⟨fun h p hp c => h p hp ?_, fun h p hp c => h p hp ?_⟩
  · rw [Bool.or_eq_true, Bool.or_eq_true, Bool.or_eq_true, beq_iff_eq, beq_iff_eq, beq_iff_eq, beq_iff_eq]
    unfold Touch at c; lia
  · rw [Bool.or_eq_true, Bool.or_eq_true, Bool.or_eq_true, beq_iff_eq, beq_iff_eq, beq_iff_eq, beq_iff_eq] at c
    unfold Touch; lia
noncomputable def All (T : List (Int × Int)) (F : List (List (Int × Int))) : Prop := (∀ L ∈ F, Pg T L) ∧ ∀ L, L.Sublist T → Disj L → L ∈ F
theorem All.nil : All [] [[]] := ⟨fun L hL => by rw [List.mem_singleton.mp hL]; exact ⟨fun p hp => hp, .nil⟩, fun L h _ => List.mem_singleton.mpr (List.sublist_nil.mp h)⟩
theorem All.step {F : List (List (Int × Int))} (h : All T F) {t : Int × Int} : All (T ++ [t]) (F ++ (F.filter (fr t)).map (· ++ [t])) := by
  refine ⟨fun L hL => ?_, fun L hL hd => ?_⟩
  · rcases List.mem_append.mp hL with hL | hL
    · exact ⟨fun p hp => List.mem_append_left _ ((h.1 L hL).1 p hp), (h.1 L hL).2⟩
    · refine ob7 (List.mem_map.mp hL) ?_
      intro L hL' ee213
      subst ee213
      refine ob14 (List.mem_filter.mp hL') ?_
      intro hL hf
      refine ⟨fun p hp => ?_, List.pairwise_append.mpr ⟨(h.1 L hL).2, List.pairwise_singleton _ _, fun p hp q hq => ?_⟩⟩
      · rcases List.mem_append.mp hp with hp | hp
        · exact List.mem_append_left _ ((h.1 L hL).1 p hp)
        · exact List.mem_append_right _ hp
      · rw [List.mem_singleton.mp hq]; exact fr_iff.mp hf p hp
  · refine ob1 (List.sublist_append_iff.mp hL) ?_
    intro L1 L2 ee214
    subst ee214
    intro h1 h2
    have hd' := List.pairwise_append.mp hd
    have h2' : L2 = [] ∨ L2 = [t] := by
      cases h2 with
      | cons _ h => exact .inl (List.sublist_nil.mp h)
      | cons_cons _ h => exact .inr (by rw [List.sublist_nil.mp h])
    rcases h2' with rfl | rfl
    · rw [List.append_nil]; exact List.mem_append_left _ (h.2 L1 h1 hd'.1)
    · exact List.mem_append_right _ (List.mem_map.mpr ⟨L1, List.mem_filter.mpr ⟨h.2 L1 h1 hd'.1, fr_iff.mpr fun p hp => hd'.2.2 p hp t (List.mem_singleton.mpr rfl)⟩, rfl⟩)
noncomputable def Bsts (T : List (Int × Int)) (B : List (List (Int × Int))) : Prop := (∀ L ∈ B, Bst T L) ∧ ∀ L, L.Pairwise zbx → Bst T L → L ∈ B
theorem All.best (hT : zfs n T) {F : List (List (Int × Int))} (h : All T F) {m : Int} (h1 : ∃ L ∈ F, (L.length : Int) = m) (h2 : ∀ L ∈ F, (L.length : Int) ≤ m) : Bsts T (F.filter fun L => (L.length : Int) == m) := by
  have key : ∀ P, Pg T P → (P.length : Int) ≤ m := fun P hP => by
    refine ob4 (hP.sort hT.2) ?_
    intro P' g s e _
    have := h2 P' (h.2 P' (zdK hT.1 s g.1) g.2)
    lia
  refine ⟨fun L hL => ?_, fun L s hL => ?_⟩
  · refine ob14 (List.mem_filter.mp hL) ?_
    intro hL e
    have e := beq_iff_eq.mp e
    exact ⟨h.1 L hL, fun P' h' => by have := key P' h'; lia⟩
  · refine List.mem_filter.mpr ⟨h.2 L (zdK hT.1 s hL.1.1) hL.1.2, beq_iff_eq.mpr ?_⟩
    refine ob7 h1 ?_
    clear h1
    intro L' hL' e
    have := hL.2 L' (h.1 L' hL')
    have := key L hL.1
    lia
noncomputable def Bd (T : List (Int × Int)) (i : Int) : Prop := ∀ L, Bst T L → i ∈ zbK L
noncomputable def bd (T : List (Int × Int)) (i : Int) : Bool := @decide (Bd T i) (Classical.propDecidable _)
theorem zkA {i : Int} (h : Bd T i) : bd T i = true := @decide_eq_true _ (Classical.propDecidable _) h
theorem ziE {i : Int} (h : ¬ Bd T i) : bd T i = false := @decide_eq_false _ (Classical.propDecidable _) h
theorem zol {i : Int} (h : bd T i = true) : Bd T i := @of_decide_eq_true _ (Classical.propDecidable _) h
noncomputable def cut (i : Int) (T : List (Int × Int)) : List (Int × Int) := T.filter fun p => !(i == p.1 || i == p.2)
theorem mem_cut {i : Int} {p : Int × Int} : p ∈ cut i T ↔ p ∈ T ∧ ¬ (p.1 = i ∨ p.2 = i) := by
  unfold cut
  rw [List.mem_filter, Bool.not_eq_true', Bool.or_eq_false_iff, beq_eq_false_iff_ne, beq_eq_false_iff_ne]
  exact ⟨fun h => ⟨h.1, fun e => e.elim (fun e => h.2.1 e.symm) fun e => h.2.2 e.symm⟩, fun h => ⟨h.1, fun e => h.2 (.inl e.symm), fun e => h.2 (.inr e.symm)⟩⟩
theorem znV {i : Int} {P1 P2 : List (Int × Int)} (h1 : Bst (cut i T) P1) (h2 : Bst T P2) : bd T i = decide (P1.length < P2.length) := by
  have up : ∀ {P}, Pg (cut i T) P → Pg T P := fun h => ⟨fun p hp => (mem_cut.mp (h.1 p hp)).1, h.2⟩
  have : Bd T i ↔ P1.length < P2.length := by
    constructor
    · intro h
      refine Classical.byContradiction fun no => ?_
      have b1 : Bst T P1 := ⟨up h1.1, fun P' h' => Nat.le_trans (h2.2 P' h') (by lia)⟩
      refine ob7 (mem_places.mp (h P1 b1)) ?_
      intro p hp e
      exact (mem_cut.mp (h1.1.1 p hp)).2 e
    · intro lt L hL
      refine Classical.byContradiction fun no => ?_
      have := h1.2 L ⟨fun p hp => mem_cut.mpr ⟨hL.1.1 p hp, fun e => no (mem_places.mpr ⟨p, hp, e⟩)⟩, hL.1.2⟩
      have := hL.2 P2 h2.1
      lia
  by_cases c : P1.length < P2.length
  · rw [decide_eq_true c, zkA (this.mpr c)]
  · rw [decide_eq_false c, ziE fun z => c (this.mp z)]
noncomputable def srt (T : List (Int × Int)) (i : Int) : String := if (nb T i).isEmpty then "loose" else if bd T i then "bound" else "free"
noncomputable def hs (i : Int) (L : List (Int × Int)) : Bool := L.any fun p => i == p.1 || i == p.2
theorem hs_iff {i : Int} {L : List (Int × Int)} : hs i L = true ↔ i ∈ zbK L := by
  unfold hs
  rw [List.any_eq_true, mem_places]
  refine ⟨fun ⟨p, hp, e⟩ => ⟨p, hp, ?_⟩, fun ⟨p, hp, e⟩ => ⟨p, hp, ?_⟩⟩
  · rw [Bool.or_eq_true, beq_iff_eq, beq_iff_eq] at e; lia
  · rw [Bool.or_eq_true, beq_iff_eq, beq_iff_eq]; lia
noncomputable def lsrt (B : List (List (Int × Int))) (i : Int) : String := if (B.filter (hs i)).length = B.length then "bound" else if (B.filter (hs i)).isEmpty then "loose" else "free"
theorem ziD {i : Int} {P : List (Int × Int)} (h : Bst T P) (e : (nb T i).isEmpty = true) : bd T i = false := by
  refine ziE fun z => ?_
  refine ob7 (mem_places.mp (z P h)) ?_
  intro p hp q
  have : ∀ j, j ∉ nb T i := fun j => by rw [List.isEmpty_iff.mp e]; exact List.not_mem_nil
  rcases q with rfl | rfl
  · exact this p.2 (mem_nb.mpr (.inl (h.1.1 p hp)))
  · exact this p.1 (mem_nb.mpr (.inr (h.1.1 p hp)))
theorem zlX {B : List (List (Int × Int))} (hT : zfs n T) (hB : Bsts T B) {i : Int} : (B.filter (hs i)).length = B.length ↔ bd T i = true := by
  refine ⟨fun e => zkA fun L hL => ?_, fun e => ?_⟩
  · refine ob4 (hL.1.sort hT.2) ?_
    intro P' g s e' k
    have b : Bst T P' := ⟨g, fun P h => by rw [e']; exact hL.2 P h⟩
    have all := List.length_filter_eq_length_iff.mp e
    exact k i (hs_iff.mp (all P' (hB.2 P' s b)))
  · exact List.length_filter_eq_length_iff.mpr fun L hL => hs_iff.mpr (zol e L (hB.1 L hL))
theorem zmv {B : List (List (Int × Int))} (hT : zfs n T) (hB : Bsts T B) (h : Bst T P) {i : Int} : lsrt B i = srt T i := by
  unfold lsrt srt
  by_cases c : (B.filter (hs i)).length = B.length
  · rw [if_pos c]
    have b := (zlX hT hB).mp c
    rw [if_neg fun e => Bool.false_ne_true ((ziD h e).symm.trans b), if_pos b]
  · rw [if_neg c]
    have b : ¬ bd T i = true := fun e => c ((zlX hT hB).mpr e)
    by_cases e : (nb T i).isEmpty = true
    · rw [if_pos e, if_pos]
      rw [List.isEmpty_iff, List.filter_eq_nil_iff]
      intro L hL z
      refine ob7 (mem_places.mp (hs_iff.mp z)) ?_
      intro p hp q
      have : ∀ j, j ∉ nb T i := fun j => by rw [List.isEmpty_iff.mp e]; exact List.not_mem_nil
      rcases q with rfl | rfl
      · exact this p.2 (mem_nb.mpr (.inl ((hB.1 L hL).1.1 p hp)))
      · exact this p.1 (mem_nb.mpr (.inr ((hB.1 L hL).1.1 p hp)))
    · rw [if_neg e, if_neg b, if_neg]
      intro z
      refine ob12 (List.exists_mem_of_ne_nil _ fun y => e (List.isEmpty_iff.mpr y)) ?_
      intro j hj
      refine ob2 (h.take hT.2 hj) ?_
      intro P' b' m s
      have := List.filter_eq_nil_iff.mp (List.isEmpty_iff.mp z) P' (hB.2 P' s b')
      exact this (hs_iff.mpr m)
end
end Mine
end
section
set_option linter.unusedVariables false
set_option linter.unusedSimpArgs false
namespace Mine
open PySem
section
variable {k : Nat} {σ : Store} {Q : V → Store → Prop} {X : XP} {x d r l : Addr} {rs : List Addr} {n : Int} {T P : List (Int × Int)} {i : Nat}
theorem zfz : (zba "" "leaving").isSome = true := rfl
theorem zkb {i : Int} {p : Int × Int} : inV σ (.int i) (pr p) = some (i == p.1 || i == p.2) := by
  show some ((p.1 == i) || ((p.2 == i) || false)) = _
  rw [Bool.or_false, Bool.beq_comm (a := p.1), Bool.beq_comm (a := p.2)]
theorem zcd {c : Addr} {vs : List V} {K : List V → (Store → Prop) → Prop} (h : σ c = some (.list vs)) (g : K vs fun σ' => σ' c = some (.list vs)) : zcY (.ref c) σ K := by
  show zbw σ (.ref c) fun a vs => K vs fun σ' => σ' a = some (.list vs)
  exact zbc h g
theorem zmD {K : Option V → Store → Prop} {c : Bool} {v : V} (h : K (if c = true then some v else none) σ) : if c = true then K (some v) σ else K none σ := by
  cases c
  · exact h
  · exact h
theorem zbM {α : Type} {chk : Store → Prop} {B : V → Store → (Option V → Store → Prop) → Prop} {L : List α} {g h : α → V} {c : α → Bool} (hc : ∀ σ', Ext σ σ' → chk σ') (hl : L.length ≤ zbb)
    (hB : ∀ x ∈ L, ∀ σ', Ext σ σ' → ∀ K : Option V → Store → Prop, (∀ σ'', Ext σ' σ'' → K (if c x = true then some (h x) else none) σ'') → B (g x) σ' K)
    (q : ∀ σ' a, Ext σ σ' → σ a = none → σ' a = some (.list ((L.filter c).map h)) → Q (.ref a) σ') : zcw chk B Q (L.map g) [] σ := by
  have key : ∀ (L' : List α) (acc : List V) (σ' : Store), (∀ x ∈ L', x ∈ L) → Ext σ σ' → acc.length + L'.length ≤ zbb → acc ++ (L'.filter c).map h = (L.filter c).map h → zcw chk B Q (L'.map g) acc σ' := by
    intro L'
    induction L' with
    | nil =>
      intro acc σ' _ e _ eq
      refine ⟨hc _ e, fun a ha => ?_⟩
      rw [List.filter_nil, List.map_nil, List.append_nil] at eq
      exact q _ a (e.upd (e.none ha)) (e.none ha) (by rw [zaR, eq])
    | cons x L' ih =>
      intro acc σ' hs e hn eq
      rw [List.length_cons] at hn
      refine ⟨hc _ e, by lia, hB x (hs x (List.mem_cons_self ..)) σ' e _ fun σ'' e' => ?_⟩
      rw [List.filter_cons] at eq
      by_cases z : c x = true
      · rw [if_pos z] at eq ⊢
        exact ih _ _ (fun y hy => hs y (List.mem_cons_of_mem _ hy)) (e.trans e') (by rw [List.length_append, List.length_singleton]; lia) (by rw [← eq, List.map_cons, List.append_assoc]; rfl)
      · rw [if_neg z] at eq ⊢
        exact ih _ _ (fun y hy => hs y (List.mem_cons_of_mem _ hy)) (e.trans e') (show acc.length + _ ≤ _ by lia) eq
  exact key L [] σ (fun x hx => hx) .rfl (by rw [List.length_nil]; lia) rfl
theorem zfa (hx : NetAt σ x d r rs n T) (hQ : ∀ σ' a P', Ext σ σ' → σ' a = some (.list (P'.map pr)) → Bst T P' → P'.Pairwise zbx → Q (.ref a) σ') : (sem zba zbf (k + 7) true).run "" "most" [.ref x] σ Q X :=
  zjW hx fun σ' a P' e _ ha s d p f => hQ σ' a P' e ha (zlo hx.ok ⟨s, d⟩ f) p
theorem zeq (hx : NetAt σ x d r rs n T) (hT : T.Pairwise zbx) (hTl : T.length ≤ 1600) (hi : (i : Int) < n)
    (hQ : ∀ σ' v, Ext σ σ' → noB v = bd T i → Q v σ') : (sem zba zbf (k + 8) true).run "" "leaving" [.ref x, .int i] σ Q X := by
  have hlo := hx.lo
  have hhi := hx.hi
  refine zbe (F := zfu) rfl ⟨rfl, ?_⟩
  simp only [zfu, zay, zak, zaF, zaj, zad, zac, zaW, zap, zaX, zaE, zaY, zaG, E_tt, E_ff, za2, za0, zaZ, zaL, za4, za1, zaU, zaV, zaC, zaD, zaM, zaI, zaH, E_m1, zaN, za3, zan, zaJ, zam, zao, E_b1, zaK, za5, zaP, zas, zar, zaq, zaB, zal, zaT, zav, I_r1, I_r2, I_r3, zaS, zau, zat, zaO, zag, zai, zah, zax, zaw, zaA, zaz, List.map_cons, List.map_nil, List.length_cons, List.length_nil, List.cons_append, List.nil_append, List.replicate, Nat.reduceAdd, Nat.reduceSub, Loc.get, zgz, zgs, zjs, zaa, tgOk, onT, zaf, true_and, zae, zss, zsz, zab]
  refine zbl hx.top hx.dic ⟨⟨rfl, tb_beside⟩, ?_⟩
  refine zd2 hx hi fun b hb => ?_
  have e1 := (Ext.rfl (σ := σ)).upd (o := .list ((zbt (nb T i)).map V.int)) hb
  generalize σ.upd b (.list ((zbt (nb T i)).map V.int)) = σ1 at *
  have hx1 := hx.ext e1
  simp only [zfg, zay, zak, zaF, zaj, zad, zac, zaW, zap, zaX, zaE, zaY, zaG, E_tt, E_ff, za2, za0, zaZ, zaL, za4, za1, zaU, zaV, zaC, zaD, zaM, zaI, zaH, E_m1, zaN, za3, zan, zaJ, zam, zao, E_b1, zaK, za5, zaP, zas, zar, zaq, zaB, zal, zaT, zav, I_r1, I_r2, I_r3, zaS, zau, zat, zaO, zag, zai, zah, zax, zaw, zaA, zaz, Loc.get, zgz, zgs, zjs, zaa, tgOk, onT, zaf, true_and, zae, zss, zsz, zab, drp, zbz, zjE]
  refine zdc hx1 ?_
  refine zbl hx1.top hx1.dic ⟨⟨rfl, tb_ties⟩, ?_⟩
  refine zjz hx1 fun c hc => ?_
  rw [zjA ⟨hT, hx.ok⟩ (List.Perm.refl _)]
  have e2 := (Ext.rfl (σ := σ1)).upd (o := .list (T.map pr)) hc
  have hc2 : (σ1.upd c (.list (T.map pr))) c = some (.list (T.map pr)) := zaR
  generalize σ1.upd c (.list (T.map pr)) = σ2 at *
  refine zcd hc2 ?_
  refine zbM (c := fun p : Int × Int => !(((i : Int) == p.1) || ((i : Int) == p.2))) (h := pr) (fun σ' e => e _ _ hc2) (by unfold zbb; lia) (fun p _ σ' _ K hK => ?_) ?_
  · exact zaQ (a := !(((i : Int) == p.1) || ((i : Int) == p.2))) (by rw [zb7, zkb]; rfl) (zmD (hK _ .rfl))
  intro σ3 w e3 hw hw3 y dy hy hdy hyd
  have hx3 := hx1.ext (e2.trans e3)
  have hwy : w ≠ y := zbF hw3 hy
  have hwd : w ≠ dy := zbF hw3 hdy
  have hlen : (cut i T).length ≤ T.length := List.length_filter_le ..
  have hok : ∀ p ∈ cut i T, zbi n p := fun p hp => hx.ok p (mem_cut.mp hp).1
  have hno : (cut i T).Nodup := hx.nod.filter _
  refine zg7 (d := dy) (H := cut i T) zaR (by rw [za7 hyd.symm, zaR]) hyd ((za7 hwy).trans ((za7 hwd).trans hw3)) hlo hhi hno hok (by lia) ?_
  intro σ4 r' rs' hF hd' hR hr hrs hrr
  have e4 := zis hy hdy hF
  have hN : NetAt σ4 y dy r' rs' n (cut i T) := ⟨hF y _ hyd zaR, hd', hR, hlo, hhi, hno, hok⟩
  refine ⟨rfl, ?_⟩
  simp only [zfh, zay, zak, zaF, zaj, zad, zac, zaW, zap, zaX, zaE, zaY, zaG, E_tt, E_ff, za2, za0, zaZ, zaL, za4, za1, zaU, zaV, zaC, zaD, zaM, zaI, zaH, E_m1, zaN, za3, zan, zaJ, zam, zao, E_b1, zaK, za5, zaP, zas, zar, zaq, zaB, zal, zaT, zav, I_r1, I_r2, I_r3, zaS, zau, zat, zaO, zag, zai, zah, zax, zaw, zaA, zaz, Loc.get, zgz, zgs, zjs, zaa, tgOk, onT, zaf, true_and, zae, zss, zsz, zab, zbz, zhB]
  refine zfa hN fun σ5 a P1 e5 ha5 b1 _ => ?_
  simp only [zfi, zay, zak, zaF, zaj, zad, zac, zaW, zap, zaX, zaE, zaY, zaG, E_tt, E_ff, za2, za0, zaZ, zaL, za4, za1, zaU, zaV, zaC, zaD, zaM, zaI, zaH, E_m1, zaN, za3, zan, zaJ, zam, zao, E_b1, zaK, za5, zaP, zas, zar, zaq, zaB, zal, zaT, zav, I_r1, I_r2, I_r3, zaS, zau, zat, zaO, zag, zai, zah, zax, zaw, zaA, zaz, Loc.get, zgz, zgs, zjs, zaa, tgOk, onT, zaf, true_and, zae, zss, zsz, zab, zbz, zhB, zeC ha5, List.length_map]
  have hx5 := hx3.ext (e4.trans e5)
  refine zfa hx5 fun σ6 a6 P2 e6 ha6 b2 _ => ?_
  have fin := znV b1 b2
  have E := (((e1.trans (e2.trans e3)).trans (e4.trans e5)).trans e6)
  simp only [zeC ha6, List.length_map]
  refine zaQ (a := decide ((P1.length : Int) < P2.length)) rfl ?_
  by_cases c : P1.length < P2.length
  · rw [decide_eq_true (by lia : (P1.length : Int) < P2.length)]
    rw [decide_eq_true c] at fin
    exact zch (hQ _ _ E fin.symm)
  · rw [decide_eq_false (by lia : ¬ (P1.length : Int) < P2.length)]
    rw [decide_eq_false c] at fin
    refine zbv ?_
    simp only [zfj, zay, zak, zaF, zaj, zad, zac, zaW, zap, zaX, zaE, zaY, zaG, E_tt, E_ff, za2, za0, zaZ, zaL, za4, za1, zaU, zaV, zaC, zaD, zaM, zaI, zaH, E_m1, zaN, za3, zan, zaJ, zam, zao, E_b1, zaK, za5, zaP, zas, zar, zaq, zaB, zal, zaT, zav, I_r1, I_r2, I_r3, zaS, zau, zat, zaO, zag, zai, zah, zax, zaw, zaA, zaz, Loc.get, zgz, zgs, zjs, zaa, tgOk, onT, zaf, true_and, zae, zss, zsz, zab]
    exact hQ _ _ E fin.symm
end
end Mine
end
section
set_option linter.unusedVariables false
set_option linter.unusedSimpArgs false
namespace Mine
open PySem
section
variable {k : Nat} {σ : Store} {Q : V → Store → Prop} {X : XP} {x d r l : Addr} {rs : List Addr} {n : Int} {T P : List (Int × Int)} {i : Nat}
theorem ziU : (zba "" "sort_of").isSome = true := rfl
theorem zkX : (zba "" "fence").isSome = true := rfl
theorem zgP (hx : NetAt σ x d r rs n T) (hT : T.Pairwise zbx) (hTl : T.length ≤ 1600) (hi : (i : Int) < n)
    (hQ : ∀ σ', Ext σ σ' → Q (.str (srt T i)) σ') : (sem zba zbf (k + 9) true).run "" "sort_of" [.ref x, .int i] σ Q X := by
  refine zbe (F := zft) rfl ⟨rfl, ?_⟩
  simp only [zft, zay, zak, zaF, zaj, zad, zac, zaW, zap, zaX, zaE, zaY, zaG, E_tt, E_ff, za2, za0, zaZ, zaL, za4, za1, zaU, zaV, zaC, zaD, zaM, zaI, zaH, E_m1, zaN, za3, zan, zaJ, zam, zao, E_b1, zaK, za5, zaP, zas, zar, zaq, zaB, zal, zaT, zav, I_r1, I_r2, I_r3, zaS, zau, zat, zaO, zag, zai, zah, zax, zaw, zaA, zaz, List.map_cons, List.map_nil, List.length_cons, List.length_nil, List.cons_append, List.nil_append, List.replicate, Nat.reduceAdd, Nat.reduceSub, Loc.get, zgz, zgs, zjs, zaa, tgOk, onT, zaf, true_and, zae, zss, zsz, zab]
  refine zbl hx.top hx.dic ⟨⟨rfl, tb_beside⟩, ?_⟩
  refine zd2 hx hi fun b hb => ?_
  have e1 := (Ext.rfl (σ := σ)).upd (o := .list ((zbt (nb T i)).map V.int)) hb
  have hb1 : (σ.upd b (.list ((zbt (nb T i)).map V.int))) b = some (.list ((zbt (nb T i)).map V.int)) := zaR
  generalize σ.upd b (.list ((zbt (nb T i)).map V.int)) = σ1 at *
  have hx1 := hx.ext e1
  rw [zeC hb1, List.length_map, (zbV (nb T i)).length_eq]
  refine zaQ (a := ((nb T i).length : Int) == 0) rfl ?_
  unfold srt at hQ
  by_cases z : (nb T i).isEmpty = true
  · rw [if_pos z] at hQ
    rw [List.isEmpty_iff.mp z]
    exact zch (hQ _ e1)
  · rw [if_neg z] at hQ
    have : (((nb T i).length : Int) == 0) = false := beq_eq_false_iff_ne.mpr fun e => z (List.isEmpty_iff.mpr (List.length_eq_zero_iff.mp (by lia)))
    rw [this]
    refine zbv ?_
    simp only [zfe, zay, zak, zaF, zaj, zad, zac, zaW, zap, zaX, zaE, zaY, zaG, E_tt, E_ff, za2, za0, zaZ, zaL, za4, za1, zaU, zaV, zaC, zaD, zaM, zaI, zaH, E_m1, zaN, za3, zan, zaJ, zam, zao, E_b1, zaK, za5, zaP, zas, zar, zaq, zaB, zal, zaT, zav, I_r1, I_r2, I_r3, zaS, zau, zat, zaO, zag, zai, zah, zax, zaw, zaA, zaz, Loc.get, zgz, zgs, zjs, zaa, tgOk, onT, zaf, true_and, zae, zss, zsz, zab, zbz, zfz]
    refine zeq hx1 hT hTl hi fun σ2 v e2 hv => ?_
    refine zaQ (a := bd T i) (by rw [← hv]; rfl) ?_
    cases c : bd T i with
    | true =>
      rw [if_pos c] at hQ
      exact zch (hQ _ (e1.trans e2))
    | false =>
      rw [if_neg (by rw [c]; decide)] at hQ
      refine zbv ?_
      simp only [zff, zay, zak, zaF, zaj, zad, zac, zaW, zap, zaX, zaE, zaY, zaG, E_tt, E_ff, za2, za0, zaZ, zaL, za4, za1, zaU, zaV, zaC, zaD, zaM, zaI, zaH, E_m1, zaN, za3, zan, zaJ, zam, zao, E_b1, zaK, za5, zaP, zas, zar, zaq, zaB, zal, zaT, zav, I_r1, I_r2, I_r3, zaS, zau, zat, zaO, zag, zai, zah, zax, zaw, zaA, zaz, Loc.get, zgz, zgs, zjs, zaa, tgOk, onT, zaf, true_and, zae, zss, zsz, zab]
      exact hQ _ (e1.trans e2)
noncomputable def fc (T : List (Int × Int)) (i : Int) : Bool := bd T i && (nb T i).any fun j => !bd T j
noncomputable def fen (t : Nat) (T : List (Int × Int)) : List Int := ((List.range t).map fun i : Nat => (i : Int)).filter (fc T)
theorem zir {t : Nat} : fen (t + 1) T = fen t T ++ if fc T t = true then [(t : Int)] else [] := by
  unfold fen
  rw [List.range_succ, List.map_append, List.filter_append, List.map_singleton, List.filter_cons, List.filter_nil]
theorem zko {t : Nat} : (fen t T).length ≤ t := by
  refine Nat.le_trans (List.length_filter_le ..) ?_
  rw [List.length_map, List.length_range]; exact Nat.le_refl _
theorem zia : (upto 0 n 1).map V.int = (List.range n.toNat).map fun i : Nat => V.int i := by
  have e1 : ((n - 0 + 1 - 1) / 1).toNat = n.toNat := by rw [Int.ediv_one]; lia
  unfold upto
  rw [if_pos (by decide), List.map_map, e1]
  refine List.map_congr_left fun i _ => ?_
  show V.int (0 + 1 * (i : Int)) = _
  rw [Int.zero_add, Int.one_mul]
theorem zlE {f : Int → Bool} {l : List Int} : (zbt l).any f = l.any f := by
  rw [Bool.eq_iff_iff, List.any_eq_true, List.any_eq_true]
  exact ⟨fun ⟨x, h, e⟩ => ⟨x, mem_sortI.mp h, e⟩, fun ⟨x, h, e⟩ => ⟨x, mem_sortI.mpr h, e⟩⟩
theorem zkw {α : Type} {f : α → Bool} {l : List α} : bools? (l.map fun x => V.bool (f x)) = some (l.map f) := by
  induction l with
  | nil => rfl
  | cons a l ih =>
    show (bools? (l.map fun x => V.bool (f x))).map (f a :: ·) = _
    rw [ih]; rfl
theorem ziF {a : Addr} {α : Type} {f : α → Bool} {l : List α} (h : σ a = some (.list (l.map fun x => V.bool (f x)))) (q : Q (.bool (l.any f)) σ) : b1V true .any (.ref a) σ Q := by
  refine ⟨rfl, zbc h (zaQ zkw ?_)⟩
  rw [List.any_map]; exact q
theorem zji (hx : NetAt σ x d r rs n T) (hT : T.Pairwise zbx) (hTl : T.length ≤ 1600)
    (hQ : ∀ σ' a, Ext σ σ' → σ a = none → σ' a = some (.list ((fen n.toNat T).map V.int)) → Q (.ref a) σ') : (sem zba zbf (k + 9) true).run "" "fence" [.ref x] σ Q X := by
  have hlo := hx.lo
  have hhi := hx.hi
  refine zbe (F := zh9) rfl ⟨rfl, ?_⟩
  simp only [zh9, zay, zak, zaF, zaj, zad, zac, zaW, zap, zaX, zaE, zaY, zaG, E_tt, E_ff, za2, za0, zaZ, zaL, za4, za1, zaU, zaV, zaC, zaD, zaM, zaI, zaH, E_m1, zaN, za3, zan, zaJ, zam, zao, E_b1, zaK, za5, zaP, zas, zar, zaq, zaB, zal, zaT, zav, I_r1, I_r2, I_r3, zaS, zau, zat, zaO, zag, zai, zah, zax, zaw, zaA, zaz, List.map_cons, List.map_nil, List.length_cons, List.length_nil, List.cons_append, List.nil_append, List.replicate, Nat.reduceAdd, Nat.reduceSub, Loc.get, zgz, zgs, zjs, zaa, tgOk, onT, zaf, true_and, zae, zss, zsz, zab, zbz, zfz]
  refine zdc hx ⟨by lia, ?_⟩
  rw [zia]
  refine zbM (c := fun _ => true) (h := fun i : Nat => V.bool (!bd T i)) (fun _ _ => trivial) (by rw [List.length_range]; unfold zbb; lia) (fun i hi σ' e' K hK => ?_) ?_
  · have hi := List.mem_range.mp hi
    refine zeq (hx.ext e') hT hTl (by lia) fun σ2 v e2 hv => ?_
    refine zaQ (a := !bd T i) (by rw [← hv]; rfl) ?_
    exact hK _ e2
  intro σ1 w e1 _ hw
  rw [List.filter_eq_self.mpr fun _ _ => rfl] at hw
  have hx1 := hx.ext e1
  have hw1 : σ1 w = some (.list (zdO n.toNat fun i => !bd T i)) := hw
  simp only [zhr, zay, zak, zaF, zaj, zad, zac, zaW, zap, zaX, zaE, zaY, zaG, E_tt, E_ff, za2, za0, zaZ, zaL, za4, za1, zaU, zaV, zaC, zaD, zaM, zaI, zaH, E_m1, zaN, za3, zan, zaJ, zam, zao, E_b1, zaK, za5, zaP, zas, zar, zaq, zaB, zal, zaT, zav, I_r1, I_r2, I_r3, zaS, zau, zat, zaO, zag, zai, zah, zax, zaw, zaA, zaz, Loc.get, zgz, zgs, zjs, zaa, tgOk, onT, zaf, true_and, zae, zss, zsz, zab]
  refine ⟨by simp [zbb], fun f hf => ?_⟩
  simp only [zhs, zay, zak, zaF, zaj, zad, zac, zaW, zap, zaX, zaE, zaY, zaG, E_tt, E_ff, za2, za0, zaZ, zaL, za4, za1, zaU, zaV, zaC, zaD, zaM, zaI, zaH, E_m1, zaN, za3, zan, zaJ, zam, zao, E_b1, zaK, za5, zaP, zas, zar, zaq, zaB, zal, zaT, zav, I_r1, I_r2, I_r3, zaS, zau, zat, zaO, zag, zai, zah, zax, zaw, zaA, zaz, Loc.get, zgz, zgs, zjs, zaa, tgOk, onT, zaf, true_and, zae, zss, zsz, zab]
  refine zdc (hx1.upd hf) ⟨by lia, ?_⟩
  refine zbp (fun t ρ σ' => Ext σ1 σ' ∧ σ' f = some (.list ((fen t T).map V.int)) ∧ ∃ t3, ρ = [some (.ref x), some (.ref w), some (.ref f), t3, none, none])
    ⟨Ext.rfl.upd hf, zaR, _, rfl⟩ (fun _ _ _ _ => trivial) ?_ ?_
  · intro t v ρ σ' K hv zz77
    refine ob58 zz77 ?_
    clear zz77
    intro e2 hf2 t3 ee215
    subst ee215
    intro hK
    refine ob14 (zbH hv) ?_
    intro ee216
    subst ee216
    intro ht
    rw [Int.zero_add] at ht ⊢
    have hx2 := hx1.ext e2
    have hw2 := e2 _ _ hw1
    simp only [zhv, zay, zak, zaF, zaj, zad, zac, zaW, zap, zaX, zaE, zaY, zaG, E_tt, E_ff, za2, za0, zaZ, zaL, za4, za1, zaU, zaV, zaC, zaD, zaM, zaI, zaH, E_m1, zaN, za3, zan, zaJ, zam, zao, E_b1, zaK, za5, zaP, zas, zar, zaq, zaB, zal, zaT, zav, I_r1, I_r2, I_r3, zaS, zau, zat, zaO, zag, zai, zah, zax, zaw, zaA, zaz, Loc.get, zgz, zgs, zjs, zaa, tgOk, onT, zaf, true_and, zae, zss, zsz, zab]
    refine zkh hw2 (by lia) (by lia) ?_
    have fs := zir (t := t) (T := T)
    unfold fc at fs
    cases c : bd T t with
    | false =>
      rw [c, Bool.false_and, if_neg Bool.false_ne_true, List.append_nil] at fs
      exact go_b (b := true) (zbv (zbv (hK _ _ ⟨e2, by rw [fs]; exact hf2, _, rfl⟩)))
    | true =>
      rw [c, Bool.true_and] at fs
      refine go_b (b := false) (zch (zbl hx2.top hx2.dic ⟨⟨rfl, tb_beside⟩, zd2 hx2 ht fun b hb => ?_⟩))
      have e3 := (Ext.rfl (σ := σ')).upd (o := .list ((zbt (nb T t)).map V.int)) hb
      have hb3 : (σ'.upd b (.list ((zbt (nb T t)).map V.int))) b = some (.list ((zbt (nb T t)).map V.int)) := zaR
      generalize σ'.upd b (.list ((zbt (nb T t)).map V.int)) = σ3 at *
      refine zcd hb3 ?_
      have hlen := hx.rowLen t
      refine zbM (c := fun _ => true) (h := fun j : Int => V.bool (!bd T j)) (fun σ' e => e _ _ hb3) (by unfold zbb; lia) (fun j hj σ4 e4 C hC => ?_) ?_
      · have rj := (zeB hx.ok (mem_sortI.mp hj)).2.1
        exact zkh (e4 _ _ (e3 _ _ hw2)) rj.1 (by lia) (hC _ .rfl)
      intro σ4 a4 e4 _ ha4
      rw [List.filter_eq_self.mpr fun _ _ => rfl] at ha4
      refine ziF ha4 ?_
      rw [zlE]
      have hf4 := e4 _ _ (e3 _ _ hf2)
      have E4 := e2.trans (e3.trans e4)
      cases z : (nb T t).any fun j => !bd T j with
      | false =>
        rw [z, if_neg Bool.false_ne_true, List.append_nil] at fs
        exact zbv (hK _ _ ⟨E4, by rw [fs]; exact hf4, _, rfl⟩)
      | true =>
        rw [z, if_pos rfl] at fs
        have := zko (t := t) (T := T)
        refine zch (zbc hf4 (zbA hf4 (by rw [List.length_map]; unfold zbb; lia) (hK _ _ ⟨E4.upd hf, ?_, _, rfl⟩)))
        rw [zaR, fs, List.map_append]; rfl
  · intro ρ σ' zz78
    refine ob58 zz78 ?_
    clear zz78
    intro e2 hf2 t3 ee217
    subst ee217
    rw [List.length_map, zcU] at hf2
    simp only [zht, zay, zak, zaF, zaj, zad, zac, zaW, zap, zaX, zaE, zaY, zaG, E_tt, E_ff, za2, za0, zaZ, zaL, za4, za1, zaU, zaV, zaC, zaD, zaM, zaI, zaH, E_m1, zaN, za3, zan, zaJ, zam, zao, E_b1, zaK, za5, zaP, zas, zar, zaq, zaB, zal, zaT, zav, I_r1, I_r2, I_r3, zaS, zau, zat, zaO, zag, zai, zah, zax, zaw, zaA, zaz, Loc.get, zgz, zgs, zjs, zaa, tgOk, onT, zaf, true_and, zae, zss, zsz, zab]
    exact hQ _ _ (e1.trans e2) (e1.none hf) hf2
end
end Mine
end
section
set_option linter.unusedVariables false
set_option linter.unusedSimpArgs false
namespace Mine
open PySem
abbrev GL := Addr × List (Int × Int)
noncomputable def rf (g : GL) : V := .ref g.1
noncomputable def Gs (σ : Store) (G : List GL) : Prop := ∀ g ∈ G, σ g.1 = some (.list (g.2.map pr))
theorem Gs.ext {σ σ' : Store} {G : List GL} (h : Gs σ G) (e : Ext σ σ') : Gs σ' G := fun g hg => e _ _ (h g hg)
section
variable {k : Nat} {σ : Store} {Q : V → Store → Prop} {X : XP} {t : Addr} {n : Int} {T P : List (Int × Int)} {i : Nat}
theorem znj : (zba "" "_law_all").isSome = true := rfl
theorem znG {G : List GL} {s : Nat} {v : V} (h : (G.map rf)[s]? = some v) : ∃ hs : s < G.length, v = .ref (G[s]).1 := by
  rw [List.getElem?_map] at h
  by_cases hs : s < G.length
  · rw [List.getElem?_eq_getElem hs] at h
    cases h; exact ⟨hs, rfl⟩
  · rw [List.getElem?_eq_none (by lia)] at h; cases h
theorem zlF (ht : σ t = some (.list (T.map pr))) (hTl : T.length ≤ 15)
    (hQ : ∀ σ' a G, Ext σ σ' → σ' a = some (.list (G.map rf)) → Gs σ' G → All T (G.map (·.2)) → G.length ≤ 40000 → Q (.ref a) σ') : (sem zba zbf (k + 1) true).run "" "_law_all" [.ref t] σ Q X := by
  refine zbe (F := zfv) rfl ⟨rfl, ?_⟩
  simp only [zfv, zay, zak, zaF, zaj, zad, zac, zaW, zap, zaX, zaE, zaY, zaG, E_tt, E_ff, za2, za0, zaZ, zaL, za4, za1, zaU, zaV, zaC, zaD, zaM, zaI, zaH, E_m1, zaN, za3, zan, zaJ, zam, zao, E_b1, zaK, za5, zaP, zas, zar, zaq, zaB, zal, zaT, zav, I_r1, I_r2, I_r3, zaS, zau, zat, zaO, zag, zai, zah, zax, zaw, zaA, zaz, List.map_cons, List.map_nil, List.length_cons, List.length_nil, List.cons_append, List.nil_append, List.replicate, Nat.reduceAdd, Nat.reduceSub, Loc.get, zgz, zgs, zjs, zaa, tgOk, onT, zaf, true_and, zae, zss, zsz, zab]
  refine ⟨by simp [zbb], fun b hb => ⟨by simp [zbb], fun a ha => ?_⟩⟩
  have e1 := (Ext.rfl.upd hb).trans ((Ext.rfl (σ := σ.upd b (.list []))).upd (o := .list [.ref b]) ha)
  have ha1 : ((σ.upd b (.list [])).upd a (.list [.ref b])) a = some (.list ([((b, []) : GL)].map rf)) := zaR
  have hb1 : Gs ((σ.upd b (.list [])).upd a (.list [.ref b])) [((b, []) : GL)] := fun g hg => by
    rw [List.mem_singleton.mp hg]
    exact (za7 (zib ha).1.symm).trans zaR
  generalize (σ.upd b (.list [])).upd a (.list [.ref b]) = σ1 at *
  simp only [zfk, zay, zak, zaF, zaj, zad, zac, zaW, zap, zaX, zaE, zaY, zaG, E_tt, E_ff, za2, za0, zaZ, zaL, za4, za1, zaU, zaV, zaC, zaD, zaM, zaI, zaH, E_m1, zaN, za3, zan, zaJ, zam, zao, E_b1, zaK, za5, zaP, zas, zar, zaq, zaB, zal, zaT, zav, I_r1, I_r2, I_r3, zaS, zau, zat, zaO, zag, zai, zah, zax, zaw, zaA, zaz, Loc.get, zgz, zgs, zjs, zaa, tgOk, onT, zaf, true_and, zae, zss, zsz, zab]
  refine zcd (e1 _ _ ht) ?_
  refine zbp (fun j ρ σ' => ∃ a G, (Ext σ σ' ∧ σ' a = some (.list (G.map rf)) ∧ Gs σ' G ∧ All (T.take j) (G.map (·.2)) ∧ (j ≤ 15 → G.length ≤ 2 ^ j) ∧ ∀ g ∈ G, g.2.length ≤ j) ∧ ∃ t2 t3 t4, ρ = [some (.ref t), some (.ref a), t2, t3, t4, none])
    ⟨a, _, ⟨e1, ha1, hb1, by rw [List.take_zero]; exact All.nil, fun _ => Nat.le_refl _, fun g hg => by rw [List.mem_singleton.mp hg]; exact Nat.le_refl _⟩, _, _, _, rfl⟩ ?_ ?_ ?_
  · intro j ρ σ' zz79
    refine ob71 zz79 ?_
    clear zz79
    intro a G e _ _
    exact e _ _ ht
  · intro j v ρ σ2 K hv zz80
    refine ob72 zz80 ?_
    clear zz80
    intro a G e ha hG hA hlen hin t2 t3 t4 ee218
    subst ee218
    intro hK
    refine ob12 (zkm hv) ?_
    intro hj ee219
    subst ee219
    have htk : T.take (j + 1) = T.take j ++ [T[j]] := by rw [List.take_add_one, List.getElem?_eq_getElem hj]; rfl
    have hGl := hlen (by lia)
    have hpow : 2 ^ (j + 1) = 2 ^ j + 2 ^ j := by rw [Nat.pow_succ]; lia
    have hp15 : 2 ^ (j + 1) ≤ 2 ^ 15 := Nat.pow_le_pow_right (by decide) (by lia)
    generalize T[j] = q at *
    simp only [zfq, zay, zak, zaF, zaj, zad, zac, zaW, zap, zaX, zaE, zaY, zaG, E_tt, E_ff, za2, za0, zaZ, zaL, za4, za1, zaU, zaV, zaC, zaD, zaM, zaI, zaH, E_m1, zaN, za3, zan, zaJ, zam, zao, E_b1, zaK, za5, zaP, zas, zar, zaq, zaB, zal, zaT, zav, I_r1, I_r2, I_r3, zaS, zau, zat, zaO, zag, zai, zah, zax, zaw, zaA, zaz, Loc.get, zgz, zgs, zjs, zaa, tgOk, onT, zaf, true_and, zae, zss, zsz, zab]
    refine ⟨by simp [zbb], fun m hm => ?_⟩
    have e2 := (Ext.rfl (σ := σ2)).upd (o := .list []) hm
    have hm3 : (σ2.upd m (.list [])) m = some (.list []) := zaR
    generalize σ2.upd m (.list []) = σ3 at *
    simp only [zfm, zay, zak, zaF, zaj, zad, zac, zaW, zap, zaX, zaE, zaY, zaG, E_tt, E_ff, za2, za0, zaZ, zaL, za4, za1, zaU, zaV, zaC, zaD, zaM, zaI, zaH, E_m1, zaN, za3, zan, zaJ, zam, zao, E_b1, zaK, za5, zaP, zas, zar, zaq, zaB, zal, zaT, zav, I_r1, I_r2, I_r3, zaS, zau, zat, zaO, zag, zai, zah, zax, zaw, zaA, zaz, Loc.get, zgz, zgs, zjs, zaa, tgOk, onT, zaf, true_and, zae, zss, zsz, zab]
    refine zcd (e2 _ _ ha) ?_
    refine zbp (fun s ρ σ' => ∃ H : List GL, (Ext σ2 σ' ∧ σ' m = some (.list (H.map rf)) ∧ (∀ g ∈ H, g.1 ≠ m ∧ σ' g.1 = some (.list (g.2.map pr))) ∧ H.map (·.2) = (((G.take s).map (·.2)).filter (fr q)).map (· ++ [q]) ∧ H.length ≤ s) ∧ ∃ t4, ρ = [some (.ref t), some (.ref a), some (pr q), some (.ref m), t4, none])
      ⟨[], ⟨e2, hm3, fun g hg => absurd hg List.not_mem_nil, by rw [List.take_zero]; rfl, Nat.le_refl _⟩, _, rfl⟩ ?_ ?_ ?_
    · intro s ρ σ' zz81
      refine ob24 zz81 ?_
      clear zz81
      intro H e _ _
      exact e _ _ ha
    · intro s v ρ σ4 C hv zz82
      refine ob73 zz82 ?_
      clear zz82
      intro H e4 hm4 hH hHe hHl t4 ee220
      subst ee220
      intro hC
      refine ob12 (znG hv) ?_
      intro hs ee221
      subst ee221
      have hmem := List.getElem_mem hs
      have hg := e4 _ _ (hG _ hmem)
      have hgl := hin _ hmem
      have htk2 : (G.take (s + 1)).map (·.2) = (G.take s).map (·.2) ++ [G[s].2] := by rw [List.take_add_one, List.getElem?_eq_getElem hs, List.map_append]; rfl
      generalize G[s] = g at *
      simp only [zfr, zay, zak, zaF, zaj, zad, zac, zaW, zap, zaX, zaE, zaY, zaG, E_tt, E_ff, za2, za0, zaZ, zaL, za4, za1, zaU, zaV, zaC, zaD, zaM, zaI, zaH, E_m1, zaN, za3, zan, zaJ, zam, zao, E_b1, zaK, za5, zaP, zas, zar, zaq, zaB, zal, zaT, zav, I_r1, I_r2, I_r3, zaS, zau, zat, zaO, zag, zai, zah, zax, zaw, zaA, zaz, Loc.get, zgz, zgs, zjs, zaa, tgOk, onT, zaf, true_and, zae, zss, zsz, zab]
      refine zcd hg ?_
      refine zbM (c := fun _ => true) (h := fun p : Int × Int => V.bool ((q.1 == p.1 || q.1 == p.2) || (q.2 == p.1 || q.2 == p.2))) (fun σ' e => e _ _ hg) (by unfold zbb; lia) (fun p hp σ5 e5 D hD => ?_) ?_
      · refine zeZ (c := True) trivial (zdj (zaQ (a := q.1 == p.1 || q.1 == p.2) (zkb (σ := σ5)) (go_b ?_)))
        have hD := hD _ .rfl
        rw [if_pos rfl] at hD
        cases z : (q.1 == p.1 || q.1 == p.2) with
        | true => rw [z] at hD; exact hD
        | false => rw [z] at hD; exact zdi (zaQ (a := q.2 == p.1 || q.2 == p.2) (zkb (σ := σ5)) hD)
      intro σ5 b5 e5 _ hb5
      rw [List.filter_eq_self.mpr fun _ _ => rfl] at hb5
      refine ziF hb5 ?_
      have E5 := e4.trans e5
      have hm5 := e5 _ _ hm4
      have fe : fr q g.2 = !(g.2.any fun p => (q.1 == p.1 || q.1 == p.2) || (q.2 == p.1 || q.2 == p.2)) := rfl
      have hf : (((G.take s).map (·.2) ++ [g.2]).filter (fr q)).map (· ++ [q]) = (((G.take s).map (·.2)).filter (fr q)).map (· ++ [q]) ++ if fr q g.2 = true then [g.2 ++ [q]] else [] := by
        rw [List.filter_append, List.map_append, List.filter_cons, List.filter_nil]
        cases fr q g.2 <;> rfl
      rw [htk2, hf, ← hHe] at hC
      refine go_b ?_
      rw [← fe]
      cases z : fr q g.2 with
      | false =>
        rw [z, if_neg Bool.false_ne_true] at hC
        exact zbv (hC _ _ ⟨H, ⟨E5, hm5, fun g hg => ⟨(hH g hg).1, e5 _ _ (hH g hg).2⟩, by rw [List.append_nil], by lia⟩, _, rfl⟩)
      | true =>
        rw [z, if_pos rfl] at hC
        refine zch (zbc hm5 ⟨by simp [zbb], fun b6 hb6 => ?_⟩)
        have e6 := (Ext.rfl (σ := σ5)).upd (o := .list [pr q]) hb6
        have hb7 : (σ5.upd b6 (.list [pr q])) b6 = some (.list [pr q]) := zaR
        generalize σ5.upd b6 (.list [pr q]) = σ6 at *
        refine ziC (e6 _ _ (e5 _ _ hg)) hb7 (by rw [List.length_map, List.length_singleton]; unfold zbb; lia) fun y hy => ?_
        have hm6 := e6 _ _ hm5
        have ym : y ≠ m := zgW hy hm6
        have e7 := (Ext.rfl (σ := σ6)).upd (o := .list (g.2.map pr ++ [pr q])) hy
        have hy7 : (σ6.upd y (.list (g.2.map pr ++ [pr q]))) y = some (.list ((g.2 ++ [q]).map pr)) := by rw [zaR, List.map_append]; rfl
        generalize σ6.upd y (.list (g.2.map pr ++ [pr q])) = σ7 at *
        have E7 := e6.trans e7
        refine zbA (e7 _ _ hm6) (by rw [List.length_map]; unfold zbb; lia) (hC _ _ ⟨H ++ [(y, g.2 ++ [q])], ⟨(E5.trans E7).upd hm, by rw [zaR, List.map_append]; rfl, fun g hg => ?_, by rw [List.map_append]; rfl, by rw [List.length_append, List.length_singleton]; lia⟩, _, rfl⟩)
        rcases List.mem_append.mp hg with hg | hg
        · exact ⟨(hH g hg).1, (za7 (hH g hg).1).trans (E7 _ _ (e5 _ _ (hH g hg).2))⟩
        · rw [List.mem_singleton.mp hg]
          exact ⟨ym, (za7 ym).trans hy7⟩
    · intro ρ σ4 zz83
      refine ob73 zz83 ?_
      clear zz83
      intro H e4 hm4 hH hHe hHl t4 ee222
      subst ee222
      rw [List.length_map] at hHe hHl
      rw [List.take_length] at hHe
      simp only [zfn, zay, zak, zaF, zaj, zad, zac, zaW, zap, zaX, zaE, zaY, zaG, E_tt, E_ff, za2, za0, zaZ, zaL, za4, za1, zaU, zaV, zaC, zaD, zaM, zaI, zaH, E_m1, zaN, za3, zan, zaJ, zam, zao, E_b1, zaK, za5, zaP, zas, zar, zaq, zaB, zal, zaT, zav, I_r1, I_r2, I_r3, zaS, zau, zat, zaO, zag, zai, zah, zax, zaw, zaA, zaz, Loc.get, zgz, zgs, zjs, zaa, tgOk, onT, zaf, true_and, zae, zss, zsz, zab]
      refine ziC (e4 _ _ ha) hm4 (by rw [List.length_map, List.length_map]; unfold zbb; lia) fun z hz => ?_
      refine hK _ _ ⟨z, G ++ H, ⟨(e.trans e4).upd ((e.trans e4).none hz), by rw [zaR, List.map_append], fun g hg => ?_, ?_, fun _ => by rw [List.length_append]; lia, fun g hg => ?_⟩, _, _, _, rfl⟩
      · refine (Ext.rfl.upd hz) _ _ ?_
        rcases List.mem_append.mp hg with hg | hg
        · exact e4 _ _ (hG g hg)
        · exact (hH g hg).2
      · rw [htk, List.map_append, hHe]; exact hA.step
      · rcases List.mem_append.mp hg with hg | hg
        · have := hin g hg; lia
        · have hm := List.mem_map_of_mem (f := fun g : GL => g.2) hg
          rw [hHe] at hm
          refine ob7 (List.mem_map.mp hm) ?_
          intro L hL e
          refine ob7 (List.mem_map.mp (List.mem_filter.mp hL).1) ?_
          intro g' hg' e'
          rw [← e, List.length_append, List.length_singleton, ← e']
          have := hin g' hg'
          lia
  · intro ρ σ' zz84
    refine ob72 zz84 ?_
    clear zz84
    intro a G e ha hG hA hlen hin t2 t3 t4 ee223
    subst ee223
    rw [List.length_map] at hA hlen
    rw [List.take_length] at hA
    simp only [zfl, zay, zak, zaF, zaj, zad, zac, zaW, zap, zaX, zaE, zaY, zaG, E_tt, E_ff, za2, za0, zaZ, zaL, za4, za1, zaU, zaV, zaC, zaD, zaM, zaI, zaH, E_m1, zaN, za3, zan, zaJ, zam, zao, E_b1, zaK, za5, zaP, zas, zar, zaq, zaB, zal, zaT, zav, I_r1, I_r2, I_r3, zaS, zau, zat, zaO, zag, zai, zah, zax, zaw, zaA, zaz, Loc.get, zgz, zgs, zjs, zaa, tgOk, onT, zaf, true_and, zae, zss, zsz, zab]
    refine hQ _ _ _ e ha hG hA (Nat.le_trans (hlen hTl) (Nat.le_trans (Nat.pow_le_pow_right (by decide) hTl) (by decide)))
end
end Mine
end
section
set_option linter.unusedVariables false
set_option linter.unusedSimpArgs false
namespace Mine
open PySem
section
variable {k : Nat} {σ : Store} {Q : V → Store → Prop} {X : XP} {t a : Addr} {n : Int} {T P : List (Int × Int)} {i : Int} {G : List GL}
theorem zmc : (zba "" "_law_best").isSome = true := rfl
theorem zl8 : (zba "" "_law_sort").isSome = true := rfl
theorem zlS : ∀ {l : List Int}, l ≠ [] → ∃ m, m ∈ l ∧ ∀ x ∈ l, x ≤ m
  | [], h => absurd rfl h
  | [a], _ => ⟨a, List.mem_singleton.mpr rfl, fun x hx => by rw [List.mem_singleton.mp hx]; exact Int.le_refl _⟩
  | a :: b :: l, _ => by
    obtain ⟨m, hm, hs⟩ := zlS (l := b :: l) (by intro e; cases e)
    by_cases h : a ≤ m
    · exact ⟨m, List.mem_cons_of_mem _ hm, fun x hx => (List.mem_cons.mp hx).elim (fun e => e ▸ h) (hs x)⟩
    · exact ⟨a, List.mem_cons_self .., fun x hx => (List.mem_cons.mp hx).elim (fun e => e ▸ Int.le_refl _) fun hx => by have := hs x hx; lia⟩
theorem zje (ht : σ t = some (.list (T.map pr))) (hTl : T.length ≤ 15) (hT : zfs n T)
    (hQ : ∀ σ' a G, Ext σ σ' → σ' a = some (.list (G.map rf)) → Gs σ' G → Bsts T (G.map (·.2)) → G.length ≤ 40000 → Q (.ref a) σ') : (sem zba zbf (k + 2) true).run "" "_law_best" [.ref t] σ Q X := by
  refine zbe (F := zel) rfl ⟨rfl, ?_⟩
  simp only [zel, zay, zak, zaF, zaj, zad, zac, zaW, zap, zaX, zaE, zaY, zaG, E_tt, E_ff, za2, za0, zaZ, zaL, za4, za1, zaU, zaV, zaC, zaD, zaM, zaI, zaH, E_m1, zaN, za3, zan, zaJ, zam, zao, E_b1, zaK, za5, zaP, zas, zar, zaq, zaB, zal, zaT, zav, I_r1, I_r2, I_r3, zaS, zau, zat, zaO, zag, zai, zah, zax, zaw, zaA, zaz, List.map_cons, List.map_nil, List.length_cons, List.length_nil, List.cons_append, List.nil_append, List.replicate, Nat.reduceAdd, Nat.reduceSub, Loc.get, zgz, zgs, zjs, zaa, tgOk, onT, zaf, true_and, zae, zss, zsz, zab, zbz, znj]
  refine zlF ht hTl fun σ1 a G e1 ha hG hA hl => ?_
  simp only [zev, zay, zak, zaF, zaj, zad, zac, zaW, zap, zaX, zaE, zaY, zaG, E_tt, E_ff, za2, za0, zaZ, zaL, za4, za1, zaU, zaV, zaC, zaD, zaM, zaI, zaH, E_m1, zaN, za3, zan, zaJ, zam, zao, E_b1, zaK, za5, zaP, zas, zar, zaq, zaB, zal, zaT, zav, I_r1, I_r2, I_r3, zaS, zau, zat, zaO, zag, zai, zah, zax, zaw, zaA, zaz, Loc.get, zgz, zgs, zjs, zaa, tgOk, onT, zaf, true_and, zae, zss, zsz, zab]
  refine zcd ha ?_
  refine zbM (c := fun _ => true) (h := fun g : GL => V.int (g.2.length : Int)) (fun σ' e => e _ _ ha) (by unfold zbb; lia) (fun g hg σ2 e2 K hK => ?_) ?_
  · have := e2 _ _ (hG g hg)
    have hK := hK _ .rfl
    rw [if_pos rfl] at hK
    refine zeZ (c := True) trivial ?_
    show b1V true .len (.ref g.1) σ2 _
    rw [zeC this, List.length_map]; exact hK
  intro σ2 b e2 _ hb
  rw [List.filter_eq_self.mpr fun _ _ => rfl] at hb
  have hm : (G.map fun g : GL => V.int (g.2.length : Int)) = (G.map fun g : GL => (g.2.length : Int)).map V.int := by rw [List.map_map]; rfl
  rw [hm] at hb
  obtain ⟨m, hm1, hm2⟩ := zlS (l := G.map fun g : GL => (g.2.length : Int)) fun e => by
    have := hA.2 [] (List.nil_sublist _) .nil
    rw [List.map_eq_nil_iff.mp e] at this
    exact absurd this List.not_mem_nil
  refine ⟨rfl, zbc hb (zaQ (ints?_map _) ⟨m, ⟨hm1, hm2⟩, ?_⟩)⟩
  simp only [zew, zay, zak, zaF, zaj, zad, zac, zaW, zap, zaX, zaE, zaY, zaG, E_tt, E_ff, za2, za0, zaZ, zaL, za4, za1, zaU, zaV, zaC, zaD, zaM, zaI, zaH, E_m1, zaN, za3, zan, zaJ, zam, zao, E_b1, zaK, za5, zaP, zas, zar, zaq, zaB, zal, zaT, zav, I_r1, I_r2, I_r3, zaS, zau, zat, zaO, zag, zai, zah, zax, zaw, zaA, zaz, Loc.get, zgz, zgs, zjs, zaa, tgOk, onT, zaf, true_and, zae, zss, zsz, zab]
  have ha2 := e2 _ _ ha
  refine zcd ha2 ?_
  refine zbM (c := fun g : GL => (g.2.length : Int) == m) (h := rf) (fun σ' e => e _ _ ha2) (by unfold zbb; lia) (fun g hg σ3 e3 K hK => ?_) ?_
  · have := e3 _ _ (e2 _ _ (hG g hg))
    show b1V true .len (.ref g.1) σ3 _
    rw [zeC this, List.length_map]
    exact zaQ (a := (g.2.length : Int) == m) rfl (zmD (hK _ .rfl))
  intro σ3 w e3 _ hw
  refine hQ _ _ _ (e1.trans (e2.trans e3)) hw (fun g hg => e3 _ _ (e2 _ _ (hG g (List.mem_filter.mp hg).1))) ?_ (Nat.le_trans (List.length_filter_le ..) hl)
  have : ((G.filter fun g : GL => (g.2.length : Int) == m).map (·.2)) = (G.map (·.2)).filter fun L => (L.length : Int) == m := by rw [List.filter_map]; rfl
  rw [this]
  refine hA.best hT ?_ ?_
  · refine ob7 (List.mem_map.mp hm1) ?_
    intro g hg e
    exact ⟨_, List.mem_map_of_mem hg, e⟩
  · intro L hL
    refine ob7 (List.mem_map.mp hL) ?_
    intro g hg ee224
    subst ee224
    exact hm2 _ (List.mem_map_of_mem hg)
theorem zjc (ha : σ a = some (.list (G.map rf))) (hG : Gs σ G) (hl : G.length ≤ 40000) (hin : ∀ g ∈ G, g.2.length ≤ 100)
    (hQ : ∀ σ', Ext σ σ' → Q (.str (lsrt (G.map (·.2)) i)) σ') : (sem zba zbf (k + 1) true).run "" "_law_sort" [.ref a, .int i] σ Q X := by
  refine zbe (F := zek) rfl ⟨rfl, ?_⟩
  simp only [zek, zay, zak, zaF, zaj, zad, zac, zaW, zap, zaX, zaE, zaY, zaG, E_tt, E_ff, za2, za0, zaZ, zaL, za4, za1, zaU, zaV, zaC, zaD, zaM, zaI, zaH, E_m1, zaN, za3, zan, zaJ, zam, zao, E_b1, zaK, za5, zaP, zas, zar, zaq, zaB, zal, zaT, zav, I_r1, I_r2, I_r3, zaS, zau, zat, zaO, zag, zai, zah, zax, zaw, zaA, zaz, List.map_cons, List.map_nil, List.length_cons, List.length_nil, List.cons_append, List.nil_append, List.replicate, Nat.reduceAdd, Nat.reduceSub, Loc.get, zgz, zgs, zjs, zaa, tgOk, onT, zaf, true_and, zae, zss, zsz, zab]
  refine zcd ha ?_
  refine zbM (c := fun g : GL => hs i g.2) (h := rf) (fun σ' e => e _ _ ha) (by unfold zbb; lia) (fun g hg σ2 e2 K hK => ?_) ?_
  · have hg2 := e2 _ _ (hG g hg)
    have := hin g hg
    refine zcd hg2 ?_
    refine zbM (c := fun _ => true) (h := fun p : Int × Int => V.bool (i == p.1 || i == p.2)) (fun σ' e => e _ _ hg2) (by unfold zbb; lia) (fun p hp σ3 e3 C hC => ?_) ?_
    · exact zeZ (c := True) trivial (zaQ (a := i == p.1 || i == p.2) (zkb (σ := σ3)) (hC _ .rfl))
    intro σ3 b e3 _ hb
    rw [List.filter_eq_self.mpr fun _ _ => rfl] at hb
    refine ziF hb ?_
    exact zmD (c := hs i g.2) (hK _ e3)
  intro σ1 w e1 _ hw
  have ha1 := e1 _ _ ha
  have e : ((G.map (·.2)).filter (hs i)) = (G.filter fun g : GL => hs i g.2).map (·.2) := by rw [List.filter_map]; rfl
  unfold lsrt at hQ
  rw [e, List.length_map, List.length_map, List.isEmpty_map] at hQ
  generalize G.filter (fun g : GL => hs i g.2) = W at *
  simp only [zes, zay, zak, zaF, zaj, zad, zac, zaW, zap, zaX, zaE, zaY, zaG, E_tt, E_ff, za2, za0, zaZ, zaL, za4, za1, zaU, zaV, zaC, zaD, zaM, zaI, zaH, E_m1, zaN, za3, zan, zaJ, zam, zao, E_b1, zaK, za5, zaP, zas, zar, zaq, zaB, zal, zaT, zav, I_r1, I_r2, I_r3, zaS, zau, zat, zaO, zag, zai, zah, zax, zaw, zaA, zaz, Loc.get, zgz, zgs, zjs, zaa, tgOk, onT, zaf, true_and, zae, zss, zsz, zab, zeC hw, zeC ha1, List.length_map]
  refine zaQ (a := (W.length : Int) == G.length) rfl ?_
  by_cases c : W.length = G.length
  · rw [if_pos c] at hQ
    rw [c, beq_self_eq_true]
    exact zch (hQ _ e1)
  · rw [if_neg c] at hQ
    rw [beq_eq_false_iff_ne.mpr (by lia : (W.length : Int) ≠ G.length)]
    refine zbv ?_
    simp only [zet, zay, zak, zaF, zaj, zad, zac, zaW, zap, zaX, zaE, zaY, zaG, E_tt, E_ff, za2, za0, zaZ, zaL, za4, za1, zaU, zaV, zaC, zaD, zaM, zaI, zaH, E_m1, zaN, za3, zan, zaJ, zam, zao, E_b1, zaK, za5, zaP, zas, zar, zaq, zaB, zal, zaT, zav, I_r1, I_r2, I_r3, zaS, zau, zat, zaO, zag, zai, zah, zax, zaw, zaA, zaz, Loc.get, zgz, zgs, zjs, zaa, tgOk, onT, zaf, true_and, zae, zss, zsz, zab]
    refine ⟨by simp [zbb], fun b hb => ?_⟩
    have e2 := (Ext.rfl (σ := σ1)).upd (o := .list []) hb
    have hb2 : (σ1.upd b (.list [])) b = some (.list []) := zaR
    generalize σ1.upd b (.list []) = σ2 at *
    refine zaQ (a := W.isEmpty) (by rw [zgp, zmW (e2 _ _ hw) hb2, List.isEmpty_map]) ?_
    cases z : W.isEmpty with
    | true => rw [z] at hQ; exact zch (hQ _ (e1.trans e2))
    | false =>
      rw [z] at hQ
      refine zbv ?_
      simp only [zeu, zay, zak, zaF, zaj, zad, zac, zaW, zap, zaX, zaE, zaY, zaG, E_tt, E_ff, za2, za0, zaZ, zaL, za4, za1, zaU, zaV, zaC, zaD, zaM, zaI, zaH, E_m1, zaN, za3, zan, zaJ, zam, zao, E_b1, zaK, za5, zaP, zas, zar, zaq, zaB, zal, zaT, zav, I_r1, I_r2, I_r3, zaS, zau, zat, zaO, zag, zai, zah, zax, zaw, zaA, zaz, Loc.get, zgz, zgs, zjs, zaa, tgOk, onT, zaf, true_and, zae, zss, zsz, zab]
      exact hQ _ (e1.trans e2)
end
end Mine
end
section
set_option linter.unusedVariables false
set_option linter.unusedSimpArgs false
namespace Mine
open PySem
section
variable {k : Nat} {σ : Store} {Q : V → Store → Prop} {X : XP} {x d r l t a b : Addr} {rs : List Addr} {n : Int} {T P : List (Int × Int)} {G : List GL} {ns : List Int} {i : Int}
theorem zfK {f : V → V → Option Bool} (hf : ∀ p q, f (pr p) (pr q) = some (decide (p = q))) : ∀ {us vs : List (Int × Int)}, zb0 f (us.map pr) (vs.map pr) = some (decide (us = vs))
  | [], [] => rfl
  | [], _ :: _ => rfl
  | _ :: _, [] => rfl
  | p :: us, q :: vs => by
    show (match f (pr p) (pr q), zb0 f (us.map pr) (vs.map pr) with | some a, some b => some (a && b) | _, _ => none) = _
    rw [hf, zfK hf]
    show some (decide (p = q) && decide (us = vs)) = _
    rw [← Bool.decide_and]
    exact congrArg some (decide_eq_decide.mpr List.cons_eq_cons.symm)
theorem zog {L L' : List (Int × Int)} (ha : σ a = some (.list (L.map pr))) (hb : σ b = some (.list (L'.map pr))) : eqv σ fuel (.ref a) (.ref b) = some (decide (L = L')) := by
  rw [show fuel = 5 + 1 from rfl, zgl ha hb, List.length_map, List.length_map]
  by_cases e : L.length = L'.length
  · rw [if_pos e]
    refine zfK fun p q => ?_
    show some ((p.1 == q.1) && ((p.2 == q.2) && true)) = _
    rw [Bool.and_true]
    congr 1
    rw [Bool.eq_iff_iff, Bool.and_eq_true, beq_iff_eq, beq_iff_eq, decide_eq_true_eq, Prod.ext_iff]
  · rw [if_neg e, decide_eq_false fun z => e (congrArg List.length z)]
theorem zlR {L : List (Int × Int)} (hb : σ b = some (.list (L.map pr))) : ∀ {G : List GL}, Gs σ G → memV σ (.ref b) (G.map rf) = some (decide (L ∈ G.map (·.2)))
  | [], _ => by exact (congrArg some (decide_eq_false List.not_mem_nil)).symm
  | g :: G, h => by
    show (match eqv σ fuel (.ref g.1) (.ref b), memV σ (.ref b) (G.map rf) with | some a, some b => some (a || b) | _, _ => none) = _
    rw [zog (h g (List.mem_cons_self ..)) hb, zlR hb fun g hg => h g (List.mem_cons_of_mem _ hg)]
    show some (decide (g.2 = L) || decide (L ∈ G.map (·.2))) = _
    rw [← Bool.decide_or]
    congr 1
    refine decide_eq_decide.mpr ?_
    rw [List.map_cons, List.mem_cons]
    exact or_congr eq_comm Iff.rfl
noncomputable def off (a : Nat) : Nat := a * (11 - a) / 2
theorem znu : ∀ a b : Fin 5, a < b → off a + 5 ≤ off b + a := by decide
theorem znv : ∀ a : Fin 5, off a + 5 ≤ 15 + a := by decide
theorem znh (hT : zfs n T) (hn : n ≤ 6) : T.length ≤ 15 := by
  rw [← List.length_map (f := fun p : Int × Int => (off p.1.toNat : Int) + p.2 - p.1 - 1)]
  have lt : ∀ p ∈ T, 0 ≤ p.1 ∧ p.1.toNat < 5 ∧ p.1 < p.2 ∧ p.2 ≤ 5 := fun p hp => by
    have := (hT.2 p hp).1; have := (hT.2 p hp).2.1; have := (hT.2 p hp).2.2
    lia
  refine zcA (m := 15) (List.pairwise_map.mpr (List.Pairwise.imp_of_mem ?_ hT.1)) fun x hx => ?_
  · intro p q hp hq hl e
    refine ob54 (lt p hp) ?_
    intro p0 p1 p2 p3
    refine ob54 (lt q hq) ?_
    intro q0 q1 q2 q3
    rcases hl with hl | ⟨hl, hl2⟩
    · have := znu ⟨_, p1⟩ ⟨_, q1⟩ (show p.1.toNat < q.1.toNat by lia)
      dsimp only at this
      lia
    · rw [hl] at e; lia
  · refine ob7 (List.mem_map.mp hx) ?_
    intro p hp ee225
    subst ee225
    refine ob54 (lt p hp) ?_
    intro p0 p1 p2 p3
    have := znv ⟨_, p1⟩
    dsimp only at this
    lia
theorem zlL (h : Bst T P) : (Str.ofString (srt T i) == Str.ofString "bound") = bd T i := by
  unfold srt
  by_cases e : (nb T i).isEmpty = true
  · rw [if_pos e, ziD h e]; decide
  · rw [if_neg e]
    cases bd T i <;> decide
theorem zlc {f : Int → Bool} : ((T.filter fun p => i == p.1 || i == p.2).any fun p => f (p.1 + p.2 - i)) = (nb T i).any f := by
  rw [Bool.eq_iff_iff, List.any_eq_true, List.any_eq_true]
  constructor
  · intro zz85
    refine ob7 zz85 ?_
    clear zz85
    intro p hp e
    refine ob14 (List.mem_filter.mp hp) ?_
    intro hp' z
    rw [Bool.or_eq_true, beq_iff_eq, beq_iff_eq] at z
    rcases z with rfl | rfl
    · exact ⟨p.2, mem_nb.mpr (.inl hp'), by rw [show p.2 = p.1 + p.2 - p.1 by lia]; exact e⟩
    · exact ⟨p.1, mem_nb.mpr (.inr hp'), by rw [show p.1 = p.1 + p.2 - p.2 by lia]; exact e⟩
  · intro zz86
    refine ob7 zz86 ?_
    clear zz86
    intro j hj e
    rcases mem_nb.mp hj with h | h
    · exact ⟨_, List.mem_filter.mpr ⟨h, by simp⟩, by show f (i + j - i) = true; rw [show i + j - i = j by lia]; exact e⟩
    · exact ⟨_, List.mem_filter.mpr ⟨h, by simp⟩, by show f (j + i - i) = true; rw [show j + i - i = j by lia]; exact e⟩
theorem zhV {u v : Str} : eqv σ fuel (.str u) (.str v) = some (u == v) := rfl
theorem zkg {a : Addr} {n : Nat} {f : Int → String} {i : Int} {K : V → Prop} (ha : σ a = some (.list ((List.range n).map fun i : Nat => V.str (f i)))) (h0 : 0 ≤ i) (h1 : i < n) (h : K (.str (f i))) : idxV (.ref a) (.int i) σ K := by
  refine zbZ ha h0 ?_ h
  rw [List.getElem?_map, List.getElem?_range (by lia)]
  show some (V.str (f (i.toNat : Int))) = _
  rw [Int.toNat_of_nonneg h0]
end
end Mine
end
section
set_option linter.unusedVariables false
set_option linter.unusedSimpArgs false
namespace Mine
open PySem
section
variable {k : Nat} {σ : Store} {Q : V → Store → Prop} {X : XP} {x d r l t a b s : Addr} {rs : List Addr} {n : Int} {T P : List (Int × Int)} {G : List GL} {ns : List Int} {i : Int}
theorem zob {u : V} {vs : List V} (h : σ a = some (.list vs)) : inV σ u (.ref a) = memV σ u vs := by
  show (match σ a with | some (.list vs) => memV σ u vs | some (.dict ks) => (if zcD (u :: ks) then some (zck u ks) else none) | _ => none) = _
  rw [h]
theorem zoa {t4 t5 t7 t8 t9 t10 : Option V} {N : Loc → Store → Prop} {Y : XL} (hx : NetAt σ x d r rs n T) (ht : σ t = some (.list (T.map pr))) (hT : zfs n T) (hTl : T.length ≤ 15) (hP : Bst T P)
    (hs : σ s = some (.list ((List.range n.toNat).map fun i : Nat => V.str (Str.ofString (srt T i))))) (hQ : ∀ σ', Q (.bool true) σ') :
    wpSs (sem zba zbf (k + 9)) true zh4 [some (.ref l), some (.int n), some (.ref t), some (.ref x), t4, t5, some (.ref s), t7, t8, t9, t10, none, none, none] σ N Q Y := by
  have hlo := hx.lo
  have hhi := hx.hi
  simp only [zh4, zay, zak, zaF, zaj, zad, zac, zaW, zap, zaX, zaE, zaY, zaG, E_tt, E_ff, za2, za0, zaZ, zaL, za4, za1, zaU, zaV, zaC, zaD, zaM, zaI, zaH, E_m1, zaN, za3, zan, zaJ, zam, zao, E_b1, zaK, za5, zaP, zas, zar, zaq, zaB, zal, zaT, zav, I_r1, I_r2, I_r3, zaS, zau, zat, zaO, zag, zai, zah, zax, zaw, zaA, zaz, Loc.get, zgz, zgs, zjs, zaa, tgOk, onT, zaf, true_and, zae, zss, zsz, zab]
  refine ⟨by simp [zbb], fun f hf => ?_⟩
  simp only [zkH, zay, zak, zaF, zaj, zad, zac, zaW, zap, zaX, zaE, zaY, zaG, E_tt, E_ff, za2, za0, zaZ, zaL, za4, za1, zaU, zaV, zaC, zaD, zaM, zaI, zaH, E_m1, zaN, za3, zan, zaJ, zam, zao, E_b1, zaK, za5, zaP, zas, zar, zaq, zaB, zal, zaT, zav, I_r1, I_r2, I_r3, zaS, zau, zat, zaO, zag, zai, zah, zax, zaw, zaA, zaz, Loc.get, zgz, zgs, zjs, zaa, tgOk, onT, zaf, true_and, zae, zss, zsz, zab]
  refine ⟨by lia, ?_⟩
  refine zbp (fun t' ρ σ' => Ext σ σ' ∧ σ' f = some (.list ((fen t' T).map V.int)) ∧ ∃ t7 t10, ρ = [some (.ref l), some (.int n), some (.ref t), some (.ref x), t4, t5, some (.ref s), t7, t8, some (.ref f), t10, none, none, none])
    ⟨Ext.rfl.upd hf, zaR, _, _, rfl⟩ (fun _ _ _ _ => trivial) ?_ ?_
  · intro j v ρ σ1 K hv zz87
    refine ob56 zz87 ?_
    clear zz87
    intro e1 hf1 t7 t10 ee226
    subst ee226
    intro hK
    refine ob14 (zbH hv) ?_
    intro ee227
    subst ee227
    intro hj
    rw [Int.zero_add] at hj ⊢
    have ht1 := e1 _ _ ht
    have hs1 := e1 _ _ hs
    simp only [zkL, zay, zak, zaF, zaj, zad, zac, zaW, zap, zaX, zaE, zaY, zaG, E_tt, E_ff, za2, za0, zaZ, zaL, za4, za1, zaU, zaV, zaC, zaD, zaM, zaI, zaH, E_m1, zaN, za3, zan, zaJ, zam, zao, E_b1, zaK, za5, zaP, zas, zar, zaq, zaB, zal, zaT, zav, I_r1, I_r2, I_r3, zaS, zau, zat, zaO, zag, zai, zah, zax, zaw, zaA, zaz, Loc.get, zgz, zgs, zjs, zaa, tgOk, onT, zaf, true_and, zae, zss, zsz, zab]
    refine zcd ht1 ?_
    refine zbM (c := fun p : Int × Int => (j : Int) == p.1 || (j : Int) == p.2) (h := fun p : Int × Int => V.int (p.1 + p.2 - j)) (fun σ' e => e _ _ ht1) (by unfold zbb; lia) (fun p hp σ2 e2 C hC => ?_) ?_
    · refine zaQ (a := (j : Int) == p.1 || (j : Int) == p.2) (zkb (σ := σ2)) (go_b ?_)
      have hC := hC _ .rfl
      cases z : ((j : Int) == p.1 || (j : Int) == p.2) with
      | false => rw [z] at hC; exact hC
      | true => rw [z] at hC; exact zdj (zdi hC)
    intro σ2 w e2 _ hw
    have hs2 := e2 _ _ hs1
    have hf2 := e2 _ _ hf1
    simp only [zkJ, zay, zak, zaF, zaj, zad, zac, zaW, zap, zaX, zaE, zaY, zaG, E_tt, E_ff, za2, za0, zaZ, zaL, za4, za1, zaU, zaV, zaC, zaD, zaM, zaI, zaH, E_m1, zaN, za3, zan, zaJ, zam, zao, E_b1, zaK, za5, zaP, zas, zar, zaq, zaB, zal, zaT, zav, I_r1, I_r2, I_r3, zaS, zau, zat, zaO, zag, zai, zah, zax, zaw, zaA, zaz, Loc.get, zgz, zgs, zjs, zaa, tgOk, onT, zaf, true_and, zae, zss, zsz, zab]
    refine zkg (f := fun i => srt T i) hs2 (by lia) (by lia) ?_
    refine zaQ (a := bd T j) (by rw [zgp, zhV, zlL hP]) (go_b ?_)
    have fs := zir (t := j) (T := T)
    unfold fc at fs
    cases c : bd T j with
    | false =>
      rw [c, Bool.false_and, if_neg Bool.false_ne_true, List.append_nil] at fs
      exact zj2 (c := false = true) Bool.false_ne_true (zbv (σ := σ2) (A := False) (hK _ _ ⟨e1.trans e2, by rw [fs]; exact hf2, _, _, rfl⟩))
    | true =>
      rw [c, Bool.true_and] at fs
      refine zeZ (c := true = true) rfl (zcd hw ?_)
      have hlen := List.length_filter_le (fun p : Int × Int => (j : Int) == p.1 || (j : Int) == p.2) T
      refine zbM (c := fun _ => true) (h := fun p : Int × Int => V.bool (!bd T (p.1 + p.2 - j))) (fun σ' e => e _ _ hw) (by unfold zbb; lia) (fun p hp σ3 e3 C hC => ?_) ?_
      · refine ob14 (List.mem_filter.mp hp) ?_
        intro hp z
        rw [Bool.or_eq_true, beq_iff_eq, beq_iff_eq] at z
        have := hx.ok p hp
        unfold zbi at this
        have hC := hC _ .rfl
        refine zeZ (c := True) trivial (zkg (f := fun i => srt T i) (e3 _ _ hs2) (by lia) (by lia) ?_)
        exact zaQ (a := !bd T (p.1 + p.2 - j)) (by rw [zhY, zhV, zlL hP]; rfl) hC
      intro σ3 a3 e3 _ ha3
      rw [List.filter_eq_self.mpr fun _ _ => rfl] at ha3
      refine ziF ha3 ?_
      rw [zlc (f := fun j => !bd T j)]
      have E3 := e1.trans (e2.trans e3)
      have hf3 := e3 _ _ hf2
      cases z : (nb T j).any fun j => !bd T j with
      | false =>
        rw [z, if_neg Bool.false_ne_true, List.append_nil] at fs
        exact zbv (hK _ _ ⟨E3, by rw [fs]; exact hf3, _, _, rfl⟩)
      | true =>
        rw [z, if_pos rfl] at fs
        have := zko (t := j) (T := T)
        refine zch (zbc hf3 (zbA hf3 (by rw [List.length_map]; unfold zbb; lia) (hK _ _ ⟨E3.upd hf, ?_, _, _, rfl⟩)))
        rw [zaR, fs, List.map_append]; rfl
  · intro ρ σ1 zz88
    refine ob56 zz88 ?_
    clear zz88
    intro e1 hf1 t7 t10 ee228
    subst ee228
    rw [List.length_map, zcU] at hf1
    simp only [zkI, zay, zak, zaF, zaj, zad, zac, zaW, zap, zaX, zaE, zaY, zaG, E_tt, E_ff, za2, za0, zaZ, zaL, za4, za1, zaU, zaV, zaC, zaD, zaM, zaI, zaH, E_m1, zaN, za3, zan, zaJ, zam, zao, E_b1, zaK, za5, zaP, zas, zar, zaq, zaB, zal, zaT, zav, I_r1, I_r2, I_r3, zaS, zau, zat, zaO, zag, zai, zah, zax, zaw, zaA, zaz, Loc.get, zgz, zgs, zjs, zaa, tgOk, onT, zaf, true_and, zae, zss, zsz, zab, zbz, zkX]
    refine zji (hx.ext e1) hT.1 (by lia) fun σ2 a e2 _ ha => ?_
    exact zaQ (a := true) (by rw [zgp, zlw ha (e2 _ _ hf1)]) (hQ _)
theorem zn9 {t7 t8 t9 t10 : Option V} {N : Loc → Store → Prop} {Y : XL} (hx : NetAt σ x d r rs n T) (ht : σ t = some (.list (T.map pr))) (hT : zfs n T) (hTl : T.length ≤ 15) (hP : Bst T P) (hPs : P.Pairwise zbx)
    (ha : σ a = some (.list (G.map rf))) (hG : Gs σ G) (hB : Bsts T (G.map (·.2))) (hGl : G.length ≤ 40000) (hb : σ b = some (.list (P.map pr))) {t6 : Option V} (hQ : ∀ σ', Q (.bool true) σ') :
    wpSs (sem zba zbf (k + 9)) true zh3 [some (.ref l), some (.int n), some (.ref t), some (.ref x), some (.ref a), some (.ref b), t6, t7, t8, t9, t10, none, none, none] σ N Q Y := by
  have hlo := hx.lo
  have hhi := hx.hi
  have hPl := zeG (hP.1.ok hT.2) hP.1.2 (by lia) hhi
  simp only [zh3, zay, zak, zaF, zaj, zad, zac, zaW, zap, zaX, zaE, zaY, zaG, E_tt, E_ff, za2, za0, zaZ, zaL, za4, za1, zaU, zaV, zaC, zaD, zaM, zaI, zaH, E_m1, zaN, za3, zan, zaJ, zam, zao, E_b1, zaK, za5, zaP, zas, zar, zaq, zaB, zal, zaT, zav, I_r1, I_r2, I_r3, zaS, zau, zat, zaO, zag, zai, zah, zax, zaw, zaA, zaz, Loc.get, zgz, zgs, zjs, zaa, tgOk, onT, zaf, true_and, zae, zss, zsz, zab, isl hb, Bool.not_true, go_b]
  have v := zb3 hT.2 hP.1.1 hP.1.2
  refine go_b (b := true) (zef (zk1 hb (hP.1.ok hT.2) hP.1.2 (by lia) hhi fun c hc => ?_))
  have e1 := (Ext.rfl (σ := σ)).upd (o := .list ((zbI n.toNat (mt P.reverse)).map pr)) hc
  have hc1 : (σ.upd c (.list ((zbI n.toNat (mt P.reverse)).map pr))) c = some (.list ((zbI n.toNat (mt P.reverse)).map pr)) := zaR
  generalize σ.upd c (.list ((zbI n.toNat (mt P.reverse)).map pr)) = σ1 at *
  have hin : zbI n.toNat (mt P.reverse) ∈ G.map (·.2) := by
    refine hB.2 _ zbC ⟨v.pg, fun P' h' => Nat.le_trans (hP.2 P' h') ?_⟩
    have := v.cov
    rw [hP.1.cov hT.2] at this
    lia
  refine zaQ (a := false) (by rw [zb7, zob (e1 _ _ ha), zlR hc1 (hG.ext e1), decide_eq_true hin]; rfl) (zef ?_)
  simp only [zbz, zeM, onT, zgv]
  refine zbc (e1 _ _ hb) ⟨by rw [List.length_map]; unfold zbb; lia, fun c2 hc2 => ?_⟩
  have e2 := (Ext.rfl (σ := σ1)).upd (o := .list (P.map pr)) hc2
  have hc3 : (σ1.upd c2 (.list (P.map pr))) c2 = some (.list (P.map pr)) := zaR
  generalize σ1.upd c2 (.list (P.map pr)) = σ2 at *
  have E2 := e1.trans e2
  refine zd1 (hx.ext E2) hc3 hP.1.1 hP.1.2 (fun σ3 a3 W _ _ _ hW => ?_) fun σ3 e3 _ => ?_
  · have v' := zea v hW
    have h1 := zgE hT.2 hP.1.1 hP.1.2 hW
    have h2 := hP.2 _ v'.pg
    lia
  have E3 := E2.trans e3
  refine zaQ (a := false) rfl (zbv ?_)
  have hx3 := hx.ext E3
  have ha3 := E3 _ _ ha
  have hG3 := hG.ext E3
  simp only [zkF, zay, zak, zaF, zaj, zad, zac, zaW, zap, zaX, zaE, zaY, zaG, E_tt, E_ff, za2, za0, zaZ, zaL, za4, za1, zaU, zaV, zaC, zaD, zaM, zaI, zaH, E_m1, zaN, za3, zan, zaJ, zam, zao, E_b1, zaK, za5, zaP, zas, zar, zaq, zaB, zal, zaT, zav, I_r1, I_r2, I_r3, zaS, zau, zat, zaO, zag, zai, zah, zax, zaw, zaA, zaz, Loc.get, zgz, zgs, zjs, zaa, tgOk, onT, zaf, true_and, zae, zss, zsz, zab, zbz, zl8]
  refine ⟨by lia, ?_⟩
  rw [zia]
  refine zbM (c := fun _ => true) (h := fun i : Nat => V.str (Str.ofString (srt T i))) (fun _ _ => trivial) (by rw [List.length_range]; unfold zbb; lia) (fun i hi σ4 e4 C hC => ?_) ?_
  · refine zeZ (c := True) trivial (zjc (e4 _ _ ha3) (hG3.ext e4) hGl (fun g hg => ?_) fun σ5 e5 => ?_)
    · have := hB.1 _ (List.mem_map_of_mem (f := fun g : GL => g.2) hg)
      exact Nat.le_trans (zeG (this.1.ok hT.2) this.1.2 (by lia) hhi) (by decide)
    · rw [zmv hT hB hP]
      exact hC _ e5
  intro σ4 s e4 _ hs
  rw [List.filter_eq_self.mpr fun _ _ => rfl] at hs
  have hx4 := hx3.ext e4
  simp only [zkG, zay, zak, zaF, zaj, zad, zac, zaW, zap, zaX, zaE, zaY, zaG, E_tt, E_ff, za2, za0, zaZ, zaL, za4, za1, zaU, zaV, zaC, zaD, zaM, zaI, zaH, E_m1, zaN, za3, zan, zaJ, zam, zao, E_b1, zaK, za5, zaP, zas, zar, zaq, zaB, zal, zaT, zav, I_r1, I_r2, I_r3, zaS, zau, zat, zaO, zag, zai, zah, zax, zaw, zaA, zaz, Loc.get, zgz, zgs, zjs, zaa, tgOk, onT, zaf, true_and, zae, zss, zsz, zab]
  refine ⟨by lia, ?_⟩
  refine zbp (fun j ρ σ' => Ext σ4 σ' ∧ ∃ t7 t8, ρ = [some (.ref l), some (.int n), some (.ref t), some (.ref x), some (.ref a), some (.ref b), some (.ref s), t7, t8, t9, t10, none, none, none])
    ⟨.rfl, _, _, rfl⟩ (fun _ _ _ _ => trivial) ?_ ?_
  · intro j v ρ σ5 C hv zz89
    refine ob74 zz89 ?_
    clear zz89
    intro e5 t7 t8 ee229
    subst ee229
    intro hC
    refine ob14 (zbH hv) ?_
    intro ee230
    subst ee230
    intro hj
    rw [Int.zero_add] at hj ⊢
    simp only [zkM, zay, zak, zaF, zaj, zad, zac, zaW, zap, zaX, zaE, zaY, zaG, E_tt, E_ff, za2, za0, zaZ, zaL, za4, za1, zaU, zaV, zaC, zaD, zaM, zaI, zaH, E_m1, zaN, za3, zan, zaJ, zam, zao, E_b1, zaK, za5, zaP, zas, zar, zaq, zaB, zal, zaT, zav, I_r1, I_r2, I_r3, zaS, zau, zat, zaO, zag, zai, zah, zax, zaw, zaA, zaz, Loc.get, zgz, zgs, zjs, zaa, tgOk, onT, zaf, true_and, zae, zss, zsz, zab, zbz, ziU]
    refine zgP (hx4.ext e5) hT.1 (by lia) hj fun σ6 e6 => ?_
    have E6 := e5.trans e6
    simp only [zkK, zay, zak, zaF, zaj, zad, zac, zaW, zap, zaX, zaE, zaY, zaG, E_tt, E_ff, za2, za0, zaZ, zaL, za4, za1, zaU, zaV, zaC, zaD, zaM, zaI, zaH, E_m1, zaN, za3, zan, zaJ, zam, zao, E_b1, zaK, za5, zaP, zas, zar, zaq, zaB, zal, zaT, zav, I_r1, I_r2, I_r3, zaS, zau, zat, zaO, zag, zai, zah, zax, zaw, zaA, zaz, Loc.get, zgz, zgs, zjs, zaa, tgOk, onT, zaf, true_and, zae, zss, zsz, zab]
    refine zaQ (a := true) rfl (go_b (b := true) (zef (zkg (f := fun i => srt T i) (E6 _ _ hs) (by lia) (by lia) ?_)))
    exact zaQ (a := false) (by rw [zhY, zhV, beq_self_eq_true]; rfl) (zbv (hC _ _ ⟨E6, _, _, rfl⟩))
  · intro ρ σ5 zz90
    refine ob74 zz90 ?_
    clear zz90
    intro e5 t7 t8 ee231
    subst ee231
    exact zoa (hx4.ext e5) ((E3.trans (e4.trans e5)) _ _ ht) hT hTl hP (e5 _ _ hs) hQ
theorem law_spec (hl : σ l = some (.fixed (ns.map V.int))) (hQ : ∀ σ', Q (.bool true) σ') : (sem zba zbf (k + 10) true).run "" "law" [.ref l] σ Q X := by
  refine zbe (F := znb) rfl ⟨rfl, ?_⟩
  simp only [znb, zay, zak, zaF, zaj, zad, zac, zaW, zap, zaX, zaE, zaY, zaG, E_tt, E_ff, za2, za0, zaZ, zaL, za4, za1, zaU, zaV, zaC, zaD, zaM, zaI, zaH, E_m1, zaN, za3, zan, zaJ, zam, zao, E_b1, zaK, za5, zaP, zas, zar, zaq, zaB, zal, zaT, zav, I_r1, I_r2, I_r3, zaS, zau, zat, zaO, zag, zai, zah, zax, zaw, zaA, zaz, List.map_cons, List.map_nil, List.length_cons, List.length_nil, List.cons_append, List.nil_append, List.replicate, Nat.reduceAdd, Nat.reduceSub, Loc.get, zgz, zgs, zjs, zaa, tgOk, onT, zaf, true_and, zae, zss, zsz, zab, zbz, zl9]
  refine zgT hl (by decide) fun n h1 h2 => ?_
  simp only [ziK, zay, zak, zaF, zaj, zad, zac, zaW, zap, zaX, zaE, zaY, zaG, E_tt, E_ff, za2, za0, zaZ, zaL, za4, za1, zaU, zaV, zaC, zaD, zaM, zaI, zaH, E_m1, zaN, za3, zan, zaJ, zam, zao, E_b1, zaK, za5, zaP, zas, zar, zaq, zaB, zal, zaT, zav, I_r1, I_r2, I_r3, zaS, zau, zat, zaO, zag, zai, zah, zax, zaw, zaA, zaz, Loc.get, zgz, zgs, zjs, zaa, tgOk, onT, zaf, true_and, zae, zss, zsz, zab, zbz, ziT, zmb]
  refine zg2 hl fun kd => ?_
  refine zgH hl (by lia) (by lia) fun T t ht hT hTl => ?_
  have e1 := (Ext.rfl (σ := σ)).upd (o := .list (T.map pr)) ht
  have ht1 : (σ.upd t (.list (T.map pr))) t = some (.list (T.map pr)) := zaR
  generalize σ.upd t (.list (T.map pr)) = σ1 at *
  have h15 := znh hT h2
  simp only [ziL, zay, zak, zaF, zaj, zad, zac, zaW, zap, zaX, zaE, zaY, zaG, E_tt, E_ff, za2, za0, zaZ, zaL, za4, za1, zaU, zaV, zaC, zaD, zaM, zaI, zaH, E_m1, zaN, za3, zan, zaJ, zam, zao, E_b1, zaK, za5, zaP, zas, zar, zaq, zaB, zal, zaT, zav, I_r1, I_r2, I_r3, zaS, zau, zat, zaO, zag, zai, zah, zax, zaw, zaA, zaz, Loc.get, zgz, zgs, zjs, zaa, tgOk, onT, zaf, true_and, zae, zss, zsz, zab, zbz, zjE, zgv]
  refine zbc ht1 ⟨by rw [List.length_map]; unfold zbb; lia, ?_⟩
  intro w hw x d hx hd hxd
  have e2 := (Ext.rfl (σ := σ1)).upd (o := .list (T.map pr)) hw
  have hw2 : (σ1.upd w (.list (T.map pr))) w = some (.list (T.map pr)) := zaR
  generalize σ1.upd w (.list (T.map pr)) = σ2 at *
  have hwx : w ≠ x := zbF hw2 hx
  have hwd : w ≠ d := zbF hw2 hd
  refine zg7 (d := d) (H := T) zaR (by rw [za7 hxd.symm, zaR]) hxd ((za7 hwx).trans ((za7 hwd).trans hw2)) h1 (by lia) (zcc hT.1) hT.2 (by lia) ?_
  intro σ3 r rs hF hd' hR hr hrs hrr
  have e3 := zis hx hd hF
  have hN : NetAt σ3 x d r rs n T := ⟨hF x _ hxd zaR, hd', hR, h1, by lia, zcc hT.1, hT.2⟩
  have ht3 := e3 _ _ (e2 _ _ ht1)
  refine ⟨rfl, ?_⟩
  simp only [ziM, zay, zak, zaF, zaj, zad, zac, zaW, zap, zaX, zaE, zaY, zaG, E_tt, E_ff, za2, za0, zaZ, zaL, za4, za1, zaU, zaV, zaC, zaD, zaM, zaI, zaH, E_m1, zaN, za3, zan, zaJ, zam, zao, E_b1, zaK, za5, zaP, zas, zar, zaq, zaB, zal, zaT, zav, I_r1, I_r2, I_r3, zaS, zau, zat, zaO, zag, zai, zah, zax, zaw, zaA, zaz, Loc.get, zgz, zgs, zjs, zaa, tgOk, onT, zaf, true_and, zae, zss, zsz, zab, zbz, zmc]
  refine zje ht3 h15 hT fun σ4 a G e4 ha hG hB hGl => ?_
  simp only [zkE, zay, zak, zaF, zaj, zad, zac, zaW, zap, zaX, zaE, zaY, zaG, E_tt, E_ff, za2, za0, zaZ, zaL, za4, za1, zaU, zaV, zaC, zaD, zaM, zaI, zaH, E_m1, zaN, za3, zan, zaJ, zam, zao, E_b1, zaK, za5, zaP, zas, zar, zaq, zaB, zal, zaT, zav, I_r1, I_r2, I_r3, zaS, zau, zat, zaO, zag, zai, zah, zax, zaw, zaA, zaz, Loc.get, zgz, zgs, zjs, zaa, tgOk, onT, zaf, true_and, zae, zss, zsz, zab, zbz, zhB]
  refine zfa (hN.ext e4) fun σ5 b P e5 hb hP hPs => ?_
  exact zn9 (hN.ext (e4.trans e5)) (e5 _ _ (e4 _ _ ht3)) hT h15 hP hPs (e5 _ _ ha) (hG.ext e5) hB hGl hb hQ
end
end Mine
end
section
set_option maxRecDepth 100000
theorem PySem.Challenge.cw_uf010024_07_holds : PySem.Challenge.rw_uf010024_07.Holds := by
  exact Mine.join07 fun l ns h => Mine.law_spec (k := 10) (ns := ns) (by simp [Mine.sig0]) fun _ => rfl
end
