import PyProof.Rows.All
import Wide.All
import OpenK.KLine
import PySem.Value
import Open.Tree
import Open.Boot
import Wide.FinOn
import OpenK.KCell
import OpenK.KMore
import KE.KRevSl
import KE.KSliceW
import KE.KSortTup
import KE.KDictSum
import KE.KDictOf
import PyProof.AttrMissHeap
import PyProof.DictDisplay
import KE.KIsNot
import KE.KIsAll
import OpenK.KWalk
import PySem.Challenge.RW_uf010024_11
set_option Elab.async false
set_option tactic.hygienic false
set_option genCtorIdx false
set_option genInjectivity false
set_option maxHeartbeats 8000000
set_option maxRecDepth 100000
set_option bootstrap.genMatcherCode false
set_option genSizeOf false
set_option compiler.extract_closed false
set_option linter.all false
namespace Mine.Internal
abbrev qaa:=@PySem.wpAny_bind
abbrev qab:=@PySem.wpAny_pure
abbrev qac:=@List.length_map
abbrev qad:=@List.mem_cons
abbrev qae:=@Bool.and_eq_true
abbrev qaf:=@decide_eq_true
abbrev qag:=@List.mem_cons_of_mem
abbrev qah:=@List.mem_singleton
abbrev qai:=@decide_eq_false
abbrev qaj:=@List.mem_cons_self
abbrev qak:=@Nat.le_trans
abbrev qal:=@Nat.le_refl
abbrev qam:=@List.not_mem_nil
abbrev qan:=@Bool.false_ne_true
abbrev qao:=@List.mem_append
abbrev qap:=@List.mem_append_right
abbrev qaq:=@decide_eq_true_eq
abbrev qar:=@List.nodup_cons
abbrev qas:=@List.getElem?_eq_getElem
abbrev qat:=@List.length_append
abbrev qau:=@List.getElem?_map
abbrev qav:=@List.mem_of_getElem?
abbrev qaw:=@List.mem_append_left
abbrev qax:=@PySem.Heap.get?_push_size
end Mine.Internal
open Mine.Internal
section
namespace Mine.Internal
open PySem
variable {G:Prop}
theorem lift (h:∀g:Prop,(G->g)->g):G:=h G id
variable {A1 A2 A3 A4 A5 A6 A7 A8 A9:Sort _}
theorem ob1 {P1 P2:A1->Prop} (h:∃x1,P1 x1/\P2 x1) (g:∀x1,P1 x1->P2 x1->G):G:=by obtain ⟨y1,h1,h2⟩:=h;exact g y1 h1 h2
theorem ob2 {P1 P2 P3:A1->A2->Prop} (h:∃x1 x2,P1 x1 x2/\P2 x1 x2/\P3 x1 x2) (g:∀x1 x2,P1 x1 x2->P2 x1 x2->P3 x1 x2->G):G:=by obtain ⟨y1,y2,h1,h2,h3⟩:=h;exact g y1 y2 h1 h2 h3
theorem ob3 {P1 P2 P3 P4 P5 P6 P7:A1->A2->A3->Prop} (h:∃x1 x2 x3,P1 x1 x2 x3/\P2 x1 x2 x3/\P3 x1 x2 x3/\P4 x1 x2 x3/\P5 x1 x2 x3/\P6 x1 x2 x3/\P7 x1 x2 x3) (g:∀x1 x2 x3,P1 x1 x2 x3->P2 x1 x2 x3->P3 x1 x2 x3->P4 x1 x2 x3->P5 x1 x2 x3->P6 x1 x2 x3->P7 x1 x2 x3->G):G:=by obtain ⟨y1,y2,y3,h1,h2,h3,h4,h5,h6,h7⟩:=h;exact g y1 y2 y3 h1 h2 h3 h4 h5 h6 h7
theorem ob4 {P1 P2 P3 P4:A1->A2->A3->Prop} (h:∃x1 x2 x3,P1 x1 x2 x3/\P2 x1 x2 x3/\P3 x1 x2 x3/\P4 x1 x2 x3) (g:∀x1 x2 x3,P1 x1 x2 x3->P2 x1 x2 x3->P3 x1 x2 x3->P4 x1 x2 x3->G):G:=by obtain ⟨y1,y2,y3,h1,h2,h3,h4⟩:=h;exact g y1 y2 y3 h1 h2 h3 h4
theorem ob5 {P1 P2 P3 P4 P5:A1->A2->A3->Prop} (h:∃x1 x2 x3,P1 x1 x2 x3/\P2 x1 x2 x3/\P3 x1 x2 x3/\P4 x1 x2 x3/\P5 x1 x2 x3) (g:∀x1 x2 x3,P1 x1 x2 x3->P2 x1 x2 x3->P3 x1 x2 x3->P4 x1 x2 x3->P5 x1 x2 x3->G):G:=by obtain ⟨y1,y2,y3,h1,h2,h3,h4,h5⟩:=h;exact g y1 y2 y3 h1 h2 h3 h4 h5
theorem ob6 {P1 P2 P3:A1->Prop} (h:∃x1,P1 x1/\P2 x1/\P3 x1) (g:∀x1,P1 x1->P2 x1->P3 x1->G):G:=by obtain ⟨y1,h1,h2,h3⟩:=h;exact g y1 h1 h2 h3
theorem ob7 {P1:Prop} {P2 P3:A1->A2->A3->Prop} (h:P1/\(∃x1 x2 x3,P2 x1 x2 x3/\P3 x1 x2 x3)) (g:P1->∀x1 x2 x3,P2 x1 x2 x3->P3 x1 x2 x3->G):G:=by obtain ⟨h1,y1,y2,y3,h2,h3⟩:=h;exact g h1 y1 y2 y3 h2 h3
theorem ob8 {P1 P2 P3 P4:A1->Prop} (h:∃x1,P1 x1/\P2 x1/\P3 x1/\P4 x1) (g:∀x1,P1 x1->P2 x1->P3 x1->P4 x1->G):G:=by obtain ⟨y1,h1,h2,h3,h4⟩:=h;exact g y1 h1 h2 h3 h4
theorem ob9 {P1:Prop} {P2 P3 P4 P5:A1->A2->Prop} {P6:Prop} (h:P1/\(∃x1 x2,P2 x1 x2/\P3 x1 x2/\P4 x1 x2/\P5 x1 x2)/\P6) (g:P1->∀x1 x2,P2 x1 x2->P3 x1 x2->P4 x1 x2->P5 x1 x2->P6->G):G:=by obtain ⟨h1,⟨y1,y2,h2,h3,h4,h5⟩,h6⟩:=h;exact g h1 y1 y2 h2 h3 h4 h5 h6
theorem ob10 {P1 P2 P3:A1->A2->A3->Prop} (h:∃x1 x2 x3,P1 x1 x2 x3/\P2 x1 x2 x3/\P3 x1 x2 x3) (g:∀x1 x2 x3,P1 x1 x2 x3->P2 x1 x2 x3->P3 x1 x2 x3->G):G:=by obtain ⟨y1,y2,y3,h1,h2,h3⟩:=h;exact g y1 y2 y3 h1 h2 h3
theorem ob11 {P1 P2 P3:A1->A2->A3->A4->Prop} (h:∃x1 x2 x3 x4,P1 x1 x2 x3 x4/\P2 x1 x2 x3 x4/\P3 x1 x2 x3 x4) (g:∀x1 x2 x3 x4,P1 x1 x2 x3 x4->P2 x1 x2 x3 x4->P3 x1 x2 x3 x4->G):G:=by obtain ⟨y1,y2,y3,y4,h1,h2,h3⟩:=h;exact g y1 y2 y3 y4 h1 h2 h3
theorem ob12 {P1:A1->Prop} {P2 P3:Prop} (h:(∃x1,P1 x1)/\P2/\P3) (g:∀x1,P1 x1->P2->P3->G):G:=by obtain ⟨⟨y1,h1⟩,h2,h3⟩:=h;exact g y1 h1 h2 h3
theorem ob13 {P1 P2:A1->A2->Prop} {P3:Prop} (h:(∃x1 x2,P1 x1 x2/\P2 x1 x2)/\P3) (g:∀x1 x2,P1 x1 x2->P2 x1 x2->P3->G):G:=by obtain ⟨⟨y1,y2,h1,h2⟩,h3⟩:=h;exact g y1 y2 h1 h2 h3
theorem ob14 {P1:A1->Prop} (h:∃x1,P1 x1) (g:∀x1,P1 x1->G):G:=by obtain ⟨y1,h1⟩:=h;exact g y1 h1
theorem ob15 {P1:A1->Prop} {P2:Prop} (h:(∃x1,P1 x1)/\P2) (g:∀x1,P1 x1->P2->G):G:=by obtain ⟨⟨y1,h1⟩,h2⟩:=h;exact g y1 h1 h2
theorem ob16 {P1 P2:Prop} (h:P1/\P2) (g:P1->P2->G):G:=by obtain ⟨h1,h2⟩:=h;exact g h1 h2
theorem ob17 {P1 P2 P3 P4:A1->A2->Prop} (h:∃x1 x2,P1 x1 x2/\P2 x1 x2/\P3 x1 x2/\P4 x1 x2) (g:∀x1 x2,P1 x1 x2->P2 x1 x2->P3 x1 x2->P4 x1 x2->G):G:=by obtain ⟨y1,y2,h1,h2,h3,h4⟩:=h;exact g y1 y2 h1 h2 h3 h4
theorem ob18 {P1 P2 P3:Prop} (h:(P1/\P2)/\P3) (g:P1->P2->P3->G):G:=by obtain ⟨⟨h1,h2⟩,h3⟩:=h;exact g h1 h2 h3
theorem ob19 {P1 P2 P3:Prop} (h:P1/\P2/\P3) (g:P1->P2->P3->G):G:=by obtain ⟨h1,h2,h3⟩:=h;exact g h1 h2 h3
theorem ob20 {P1:A1->A2->Prop} (h:∃x1 x2,P1 x1 x2) (g:∀x1 x2,P1 x1 x2->G):G:=by obtain ⟨y1,y2,h1⟩:=h;exact g y1 y2 h1
theorem ob21 {P1 P2:A1->A2->A3->A4->Prop} (h:∃x1 x2 x3 x4,P1 x1 x2 x3 x4/\P2 x1 x2 x3 x4) (g:∀x1 x2 x3 x4,P1 x1 x2 x3 x4->P2 x1 x2 x3 x4->G):G:=by obtain ⟨y1,y2,y3,y4,h1,h2⟩:=h;exact g y1 y2 y3 y4 h1 h2
theorem ob22 {P1 P2:A1->A2->Prop} (h:∃x1 x2,P1 x1 x2/\P2 x1 x2) (g:∀x1 x2,P1 x1 x2->P2 x1 x2->G):G:=by obtain ⟨y1,y2,h1,h2⟩:=h;exact g y1 y2 h1 h2
theorem ob23 {P1 P2 P3 P4 P5 P6:Prop} (h:P1/\P2/\P3/\P4/\P5/\P6) (g:P1->P2->P3->P4->P5->P6->G):G:=by obtain ⟨h1,h2,h3,h4,h5,h6⟩:=h;exact g h1 h2 h3 h4 h5 h6
theorem ob24 {P1 P2 P3 P4:A1->Prop} (h:∃x1,P1 x1/\(P2 x1/\P3 x1)/\P4 x1) (g:∀x1,P1 x1->P2 x1->P3 x1->P4 x1->G):G:=by obtain ⟨y1,h1,⟨h2,h3⟩,h4⟩:=h;exact g y1 h1 h2 h3 h4
theorem ob25 {P1 P2 P3 P4:Prop} (h:(P1/\P2/\P3)/\P4) (g:P1->P2->P3->P4->G):G:=by obtain ⟨⟨h1,h2,h3⟩,h4⟩:=h;exact g h1 h2 h3 h4
theorem ob26 {P1 P2 P3 P4:A1->Prop} (h:∃x1,(P1 x1/\P2 x1/\P3 x1)/\P4 x1) (g:∀x1,P1 x1->P2 x1->P3 x1->P4 x1->G):G:=by obtain ⟨y1,⟨h1,h2,h3⟩,h4⟩:=h;exact g y1 h1 h2 h3 h4
theorem ob27 {P1 P2:A1->A2->A3->Prop} (h:∃x1 x2 x3,P1 x1 x2 x3/\P2 x1 x2 x3) (g:∀x1 x2 x3,P1 x1 x2 x3->P2 x1 x2 x3->G):G:=by obtain ⟨y1,y2,y3,h1,h2⟩:=h;exact g y1 y2 y3 h1 h2
theorem ob28 {P1 P2 P3:A1->Prop} (h:∃x1,(P1 x1/\P2 x1)/\P3 x1) (g:∀x1,P1 x1->P2 x1->P3 x1->G):G:=by obtain ⟨y1,⟨h1,h2⟩,h3⟩:=h;exact g y1 h1 h2 h3
theorem ob29 {P1 P2:A1->A2->A3->Prop} {P3 P4:A1->A2->A3->A4->Prop} {P5 P6 P7:A1->A2->A3->Prop} (h:∃x1 x2 x3,P1 x1 x2 x3/\P2 x1 x2 x3/\(∃x4,P3 x1 x2 x3 x4/\P4 x1 x2 x3 x4)/\P5 x1 x2 x3/\P6 x1 x2 x3/\P7 x1 x2 x3) (g:∀x1 x2 x3,P1 x1 x2 x3->P2 x1 x2 x3->∀x4,P3 x1 x2 x3 x4->P4 x1 x2 x3 x4->P5 x1 x2 x3->P6 x1 x2 x3->P7 x1 x2 x3->G):G:=by obtain ⟨y1,y2,y3,h1,h2,⟨y4,h3,h4⟩,h5,h6,h7⟩:=h;exact g y1 y2 y3 h1 h2 y4 h3 h4 h5 h6 h7
theorem ob30 {P1:Prop} {P2 P3 P4:A1->A2->Prop} (h:P1/\(∃x1 x2,P2 x1 x2/\P3 x1 x2/\P4 x1 x2)) (g:P1->∀x1 x2,P2 x1 x2->P3 x1 x2->P4 x1 x2->G):G:=by obtain ⟨h1,y1,y2,h2,h3,h4⟩:=h;exact g h1 y1 y2 h2 h3 h4
theorem ob31 {P1 P2 P3 P4 P5:Prop} (h:(P1/\P2/\P3/\P4)/\P5) (g:P1->P2->P3->P4->P5->G):G:=by obtain ⟨⟨h1,h2,h3,h4⟩,h5⟩:=h;exact g h1 h2 h3 h4 h5
variable {P7:Prop}
theorem ob32 {P1 P2 P3 P4 P5 P6:Prop} (h:(P1/\P2/\P3/\P4)/\P5/\P6/\P7) (g:P1->P2->P3->P4->P5->P6->P7->G):G:=by obtain ⟨⟨h1,h2,h3,h4⟩,h5,h6,h7⟩:=h;exact g h1 h2 h3 h4 h5 h6 h7
theorem ob33 {P1 P2 P3:A1->Prop} {P4 P5 P6:Prop} (h:(((∃x1,P1 x1/\P2 x1/\P3 x1)/\P4)/\P5)/\P6) (g:∀x1,P1 x1->P2 x1->P3 x1->P4->P5->P6->G):G:=by obtain ⟨⟨⟨⟨y1,h1,h2,h3⟩,h4⟩,h5⟩,h6⟩:=h;exact g y1 h1 h2 h3 h4 h5 h6
theorem ob34 {P1 P2 P3:A1->Prop} {P4:Prop} (h:(∃x1,P1 x1/\P2 x1/\P3 x1)/\P4) (g:∀x1,P1 x1->P2 x1->P3 x1->P4->G):G:=by obtain ⟨⟨y1,h1,h2,h3⟩,h4⟩:=h;exact g y1 h1 h2 h3 h4
theorem ob35 {P1 P2 P3 P4 P5:A1->Prop} (h:∃x1,P1 x1/\P2 x1/\P3 x1/\P4 x1/\P5 x1) (g:∀x1,P1 x1->P2 x1->P3 x1->P4 x1->P5 x1->G):G:=by obtain ⟨y1,h1,h2,h3,h4,h5⟩:=h;exact g y1 h1 h2 h3 h4 h5
theorem ob36 {P1 P2 P3 P4 P5:Prop} (h:(((P1/\P2)/\P3)/\P4)/\P5) (g:P1->P2->P3->P4->P5->G):G:=by obtain ⟨⟨⟨⟨h1,h2⟩,h3⟩,h4⟩,h5⟩:=h;exact g h1 h2 h3 h4 h5
theorem ob37 {P1:Prop} {P2 P3:A1->A2->Prop} (h:P1/\(∃x1 x2,P2 x1 x2/\P3 x1 x2)) (g:P1->∀x1 x2,P2 x1 x2->P3 x1 x2->G):G:=by obtain ⟨h1,y1,y2,h2,h3⟩:=h;exact g h1 y1 y2 h2 h3
theorem ob38 {P1 P2 P3 P4 P5 P6:Prop} (h:((((P1/\P2)/\P3)/\P4)/\P5)/\P6) (g:P1->P2->P3->P4->P5->P6->G):G:=by obtain ⟨⟨⟨⟨⟨h1,h2⟩,h3⟩,h4⟩,h5⟩,h6⟩:=h;exact g h1 h2 h3 h4 h5 h6
theorem ob39 {P1 P2 P3:Prop} {P4 P5:A1->A2->Prop} (h:P1/\P2/\P3/\(∃x1 x2,P4 x1 x2/\P5 x1 x2)) (g:P1->P2->P3->∀x1 x2,P4 x1 x2->P5 x1 x2->G):G:=by obtain ⟨h1,h2,h3,y1,y2,h4,h5⟩:=h;exact g h1 h2 h3 y1 y2 h4 h5
theorem ob40 {P1 P2 P3 P4:A1->A2->Prop} (h:∃x1 x2,(P1 x1 x2/\P2 x1 x2)/\P3 x1 x2/\P4 x1 x2) (g:∀x1 x2,P1 x1 x2->P2 x1 x2->P3 x1 x2->P4 x1 x2->G):G:=by obtain ⟨y1,y2,⟨h1,h2⟩,h3,h4⟩:=h;exact g y1 y2 h1 h2 h3 h4
theorem ob41 {P1 P2 P3 P4:Prop} (h:((P1/\P2)/\P3)/\P4) (g:P1->P2->P3->P4->G):G:=by obtain ⟨⟨⟨h1,h2⟩,h3⟩,h4⟩:=h;exact g h1 h2 h3 h4
theorem ob42 {P1 P2 P3 P4 P5 P6 P7 P8:A1->Prop} (h:∃x1,P1 x1/\(P2 x1/\P3 x1/\P4 x1/\P5 x1/\P6 x1/\P7 x1)/\P8 x1) (g:∀x1,P1 x1->P2 x1->P3 x1->P4 x1->P5 x1->P6 x1->P7 x1->P8 x1->G):G:=by obtain ⟨y1,h1,⟨h2,h3,h4,h5,h6,h7⟩,h8⟩:=h;exact g y1 h1 h2 h3 h4 h5 h6 h7 h8
theorem ob43 {P1 P2 P3 P4 P5:A1->A2->A3->A4->Prop} (h:∃x1 x2 x3 x4,P1 x1 x2 x3 x4/\P2 x1 x2 x3 x4/\P3 x1 x2 x3 x4/\P4 x1 x2 x3 x4/\P5 x1 x2 x3 x4) (g:∀x1 x2 x3 x4,P1 x1 x2 x3 x4->P2 x1 x2 x3 x4->P3 x1 x2 x3 x4->P4 x1 x2 x3 x4->P5 x1 x2 x3 x4->G):G:=by obtain ⟨y1,y2,y3,y4,h1,h2,h3,h4,h5⟩:=h;exact g y1 y2 y3 y4 h1 h2 h3 h4 h5
theorem ob44 {P1 P2 P3 P4 P5 P6:Prop} (h:(((((P1/\P2)/\P3)/\P4)/\P5)/\P6)/\P7) (g:P1->P2->P3->P4->P5->P6->P7->G):G:=by obtain ⟨⟨⟨⟨⟨⟨h1,h2⟩,h3⟩,h4⟩,h5⟩,h6⟩,h7⟩:=h;exact g h1 h2 h3 h4 h5 h6 h7
theorem ob45 {P1 P2 P3 P4 P5 P6 P7:A1->A2->A3->A4->A5->A6->A7->Prop} (h:∃x1 x2 x3 x4 x5 x6 x7,P1 x1 x2 x3 x4 x5 x6 x7/\P2 x1 x2 x3 x4 x5 x6 x7/\P3 x1 x2 x3 x4 x5 x6 x7/\P4 x1 x2 x3 x4 x5 x6 x7/\P5 x1 x2 x3 x4 x5 x6 x7/\P6 x1 x2 x3 x4 x5 x6 x7/\P7 x1 x2 x3 x4 x5 x6 x7) (g:∀x1 x2 x3 x4 x5 x6 x7,P1 x1 x2 x3 x4 x5 x6 x7->P2 x1 x2 x3 x4 x5 x6 x7->P3 x1 x2 x3 x4 x5 x6 x7->P4 x1 x2 x3 x4 x5 x6 x7->P5 x1 x2 x3 x4 x5 x6 x7->P6 x1 x2 x3 x4 x5 x6 x7->P7 x1 x2 x3 x4 x5 x6 x7->G):G:=by obtain ⟨y1,y2,y3,y4,y5,y6,y7,h1,h2,h3,h4,h5,h6,h7⟩:=h;exact g y1 y2 y3 y4 y5 y6 y7 h1 h2 h3 h4 h5 h6 h7
theorem ob46 {P1:A1->A2->A3->A4->A5->A6->Prop} (h:∃x1 x2 x3 x4 x5 x6,P1 x1 x2 x3 x4 x5 x6) (g:∀x1 x2 x3 x4 x5 x6,P1 x1 x2 x3 x4 x5 x6->G):G:=by obtain ⟨y1,y2,y3,y4,y5,y6,h1⟩:=h;exact g y1 y2 y3 y4 y5 y6 h1
theorem ob47 {P1 P2 P3 P4 P5 P6 P7:A1->A2->A3->A4->A5->A6->Prop} (h:∃x1 x2 x3 x4 x5 x6,P1 x1 x2 x3 x4 x5 x6/\P2 x1 x2 x3 x4 x5 x6/\P3 x1 x2 x3 x4 x5 x6/\P4 x1 x2 x3 x4 x5 x6/\P5 x1 x2 x3 x4 x5 x6/\P6 x1 x2 x3 x4 x5 x6/\P7 x1 x2 x3 x4 x5 x6) (g:∀x1 x2 x3 x4 x5 x6,P1 x1 x2 x3 x4 x5 x6->P2 x1 x2 x3 x4 x5 x6->P3 x1 x2 x3 x4 x5 x6->P4 x1 x2 x3 x4 x5 x6->P5 x1 x2 x3 x4 x5 x6->P6 x1 x2 x3 x4 x5 x6->P7 x1 x2 x3 x4 x5 x6->G):G:=by obtain ⟨y1,y2,y3,y4,y5,y6,h1,h2,h3,h4,h5,h6,h7⟩:=h;exact g y1 y2 y3 y4 y5 y6 h1 h2 h3 h4 h5 h6 h7
theorem ob48 {P1 P2 P3 P4 P5 P6 P7:A1->A2->A3->A4->Prop} (h:∃x1 x2 x3 x4,P1 x1 x2 x3 x4/\P2 x1 x2 x3 x4/\P3 x1 x2 x3 x4/\P4 x1 x2 x3 x4/\P5 x1 x2 x3 x4/\P6 x1 x2 x3 x4/\P7 x1 x2 x3 x4) (g:∀x1 x2 x3 x4,P1 x1 x2 x3 x4->P2 x1 x2 x3 x4->P3 x1 x2 x3 x4->P4 x1 x2 x3 x4->P5 x1 x2 x3 x4->P6 x1 x2 x3 x4->P7 x1 x2 x3 x4->G):G:=by obtain ⟨y1,y2,y3,y4,h1,h2,h3,h4,h5,h6,h7⟩:=h;exact g y1 y2 y3 y4 h1 h2 h3 h4 h5 h6 h7
theorem ob49 {P1 P2 P3 P4 P5 P6:A1->A2->A3->A4->Prop} (h:∃x1 x2 x3 x4,(P1 x1 x2 x3 x4/\P2 x1 x2 x3 x4/\P3 x1 x2 x3 x4/\P4 x1 x2 x3 x4)/\P5 x1 x2 x3 x4/\P6 x1 x2 x3 x4) (g:∀x1 x2 x3 x4,P1 x1 x2 x3 x4->P2 x1 x2 x3 x4->P3 x1 x2 x3 x4->P4 x1 x2 x3 x4->P5 x1 x2 x3 x4->P6 x1 x2 x3 x4->G):G:=by obtain ⟨y1,y2,y3,y4,⟨h1,h2,h3,h4⟩,h5,h6⟩:=h;exact g y1 y2 y3 y4 h1 h2 h3 h4 h5 h6
theorem ob50 {P1:A1->A2->A3->A4->A5->Prop} (h:∃x1 x2 x3 x4 x5,P1 x1 x2 x3 x4 x5) (g:∀x1 x2 x3 x4 x5,P1 x1 x2 x3 x4 x5->G):G:=by obtain ⟨y1,y2,y3,y4,y5,h1⟩:=h;exact g y1 y2 y3 y4 y5 h1
theorem ob51 {P1 P2:A1->Prop} {P3:A1->A2->Prop} {P4 P5 P6:A1->Prop} (h:∃x1,P1 x1/\P2 x1/\(∃x2,P3 x1 x2)/\P4 x1/\P5 x1/\P6 x1) (g:∀x1,P1 x1->P2 x1->∀x2,P3 x1 x2->P4 x1->P5 x1->P6 x1->G):G:=by obtain ⟨y1,h1,h2,⟨y2,h3⟩,h4,h5,h6⟩:=h;exact g y1 h1 h2 y2 h3 h4 h5 h6
theorem ob52 {P1 P2 P3:A1->A2->A3->A4->A5->Prop} (h:∃x1 x2 x3 x4 x5,P1 x1 x2 x3 x4 x5/\P2 x1 x2 x3 x4 x5/\P3 x1 x2 x3 x4 x5) (g:∀x1 x2 x3 x4 x5,P1 x1 x2 x3 x4 x5->P2 x1 x2 x3 x4 x5->P3 x1 x2 x3 x4 x5->G):G:=by obtain ⟨y1,y2,y3,y4,y5,h1,h2,h3⟩:=h;exact g y1 y2 y3 y4 y5 h1 h2 h3
theorem ob53 {P1 P2 P3:A1->A2->Prop} {P4 P5:A1->A2->A3->Prop} (h:∃x1 x2,P1 x1 x2/\P2 x1 x2/\P3 x1 x2/\(∃x3,P4 x1 x2 x3/\P5 x1 x2 x3)) (g:∀x1 x2,P1 x1 x2->P2 x1 x2->P3 x1 x2->∀x3,P4 x1 x2 x3->P5 x1 x2 x3->G):G:=by obtain ⟨y1,y2,h1,h2,h3,y3,h4,h5⟩:=h;exact g y1 y2 h1 h2 h3 y3 h4 h5
theorem ob54 {P1 P2 P3 P4 P5 P6 P8:Prop} (h:((((((P1/\P2)/\P3)/\P4)/\P5)/\P6)/\P7)/\P8) (g:P1->P2->P3->P4->P5->P6->P7->P8->G):G:=by obtain ⟨⟨⟨⟨⟨⟨⟨h1,h2⟩,h3⟩,h4⟩,h5⟩,h6⟩,h7⟩,h8⟩:=h;exact g h1 h2 h3 h4 h5 h6 h7 h8
theorem ob55 {P1 P2 P3 P4 P5 P6:A1->Prop} (h:∃x1,P1 x1/\P2 x1/\P3 x1/\P4 x1/\P5 x1/\P6 x1) (g:∀x1,P1 x1->P2 x1->P3 x1->P4 x1->P5 x1->P6 x1->G):G:=by obtain ⟨y1,h1,h2,h3,h4,h5,h6⟩:=h;exact g y1 h1 h2 h3 h4 h5 h6
theorem ob56 {P1 P2 P3 P4 P5 P6 P8 P9 P10 P11 P12 P13 P14:Prop} (h:((((((((((((P1/\P2)/\P3)/\P4)/\P5)/\P6)/\P7)/\P8)/\P9)/\P10)/\P11)/\P12)/\P13)/\P14) (g:P1->P2->P3->P4->P5->P6->P7->P8->P9->P10->P11->P12->P13->P14->G):G:=by obtain ⟨⟨⟨⟨⟨⟨⟨⟨⟨⟨⟨⟨⟨h1,h2⟩,h3⟩,h4⟩,h5⟩,h6⟩,h7⟩,h8⟩,h9⟩,h10⟩,h11⟩,h12⟩,h13⟩,h14⟩:=h;exact g h1 h2 h3 h4 h5 h6 h7 h8 h9 h10 h11 h12 h13 h14
theorem ob57 {P1 P2 P3 P4:Prop} (h:P1/\P2/\P3/\P4) (g:P1->P2->P3->P4->G):G:=by obtain ⟨h1,h2,h3,h4⟩:=h;exact g h1 h2 h3 h4
theorem ob58 {P1 P2 P3:Prop} {P4:A1->A2->A3->Prop} (h:P1/\P2/\P3/\(∃x1 x2 x3,P4 x1 x2 x3)) (g:P1->P2->P3->∀x1 x2 x3,P4 x1 x2 x3->G):G:=by obtain ⟨h1,h2,h3,y1,y2,y3,h4⟩:=h;exact g h1 h2 h3 y1 y2 y3 h4
theorem ob59 {P1 P2:Prop} {P3:A1->A2->Prop} (h:P1/\P2/\(∃x1 x2,P3 x1 x2)) (g:P1->P2->∀x1 x2,P3 x1 x2->G):G:=by obtain ⟨h1,h2,y1,y2,h3⟩:=h;exact g h1 h2 y1 y2 h3
theorem ob60 {P1:Prop} {P2:A1->Prop} (h:P1/\(∃x1,P2 x1)) (g:P1->∀x1,P2 x1->G):G:=by obtain ⟨h1,y1,h2⟩:=h;exact g h1 y1 h2
theorem ob61 {P1 P2:Prop} {P3:A1->Prop} (h:P1/\P2/\(∃x1,P3 x1)) (g:P1->P2->∀x1,P3 x1->G):G:=by obtain ⟨h1,h2,y1,h3⟩:=h;exact g h1 h2 y1 h3
theorem ob62 {P1 P2 P3 P4 P5:A1->A2->Prop} (h:∃x1 x2,P1 x1 x2/\P2 x1 x2/\P3 x1 x2/\P4 x1 x2/\P5 x1 x2) (g:∀x1 x2,P1 x1 x2->P2 x1 x2->P3 x1 x2->P4 x1 x2->P5 x1 x2->G):G:=by obtain ⟨y1,y2,h1,h2,h3,h4,h5⟩:=h;exact g y1 y2 h1 h2 h3 h4 h5
theorem ob63 {P1 P2 P3 P4:A1->A2->A3->Prop} (h:∃x1 x2 x3,P1 x1 x2 x3/\(P2 x1 x2 x3/\P3 x1 x2 x3)/\P4 x1 x2 x3) (g:∀x1 x2 x3,P1 x1 x2 x3->P2 x1 x2 x3->P3 x1 x2 x3->P4 x1 x2 x3->G):G:=by obtain ⟨y1,y2,y3,h1,⟨h2,h3⟩,h4⟩:=h;exact g y1 y2 y3 h1 h2 h3 h4
theorem ob64 {P1 P2 P3 P4 P5 P6:A1->A2->A3->A4->Prop} (h:∃x1 x2 x3 x4,P1 x1 x2 x3 x4/\P2 x1 x2 x3 x4/\P3 x1 x2 x3 x4/\P4 x1 x2 x3 x4/\P5 x1 x2 x3 x4/\P6 x1 x2 x3 x4) (g:∀x1 x2 x3 x4,P1 x1 x2 x3 x4->P2 x1 x2 x3 x4->P3 x1 x2 x3 x4->P4 x1 x2 x3 x4->P5 x1 x2 x3 x4->P6 x1 x2 x3 x4->G):G:=by obtain ⟨y1,y2,y3,y4,h1,h2,h3,h4,h5,h6⟩:=h;exact g y1 y2 y3 y4 h1 h2 h3 h4 h5 h6
theorem ob65 {P1 P2 P3 P4 P5 P6:A1->A2->A3->A4->A5->A6->Prop} (h:∃x1 x2 x3 x4 x5 x6,P1 x1 x2 x3 x4 x5 x6/\P2 x1 x2 x3 x4 x5 x6/\P3 x1 x2 x3 x4 x5 x6/\P4 x1 x2 x3 x4 x5 x6/\P5 x1 x2 x3 x4 x5 x6/\P6 x1 x2 x3 x4 x5 x6) (g:∀x1 x2 x3 x4 x5 x6,P1 x1 x2 x3 x4 x5 x6->P2 x1 x2 x3 x4 x5 x6->P3 x1 x2 x3 x4 x5 x6->P4 x1 x2 x3 x4 x5 x6->P5 x1 x2 x3 x4 x5 x6->P6 x1 x2 x3 x4 x5 x6->G):G:=by obtain ⟨y1,y2,y3,y4,y5,y6,h1,h2,h3,h4,h5,h6⟩:=h;exact g y1 y2 y3 y4 y5 y6 h1 h2 h3 h4 h5 h6
theorem ob66 {P1 P2 P3 P4:Prop} (h:(P1/\P2)/\P3/\P4) (g:P1->P2->P3->P4->G):G:=by obtain ⟨⟨h1,h2⟩,h3,h4⟩:=h;exact g h1 h2 h3 h4
theorem ob67 {P1 P2 P3 P4:A1->A2->A3->A4->Prop} {P5:A1->A2->A3->A4->A5->Prop} (h:∃x1 x2 x3 x4,(P1 x1 x2 x3 x4/\P2 x1 x2 x3 x4)/\P3 x1 x2 x3 x4/\P4 x1 x2 x3 x4/\(∃x5,P5 x1 x2 x3 x4 x5)) (g:∀x1 x2 x3 x4,P1 x1 x2 x3 x4->P2 x1 x2 x3 x4->P3 x1 x2 x3 x4->P4 x1 x2 x3 x4->∀x5,P5 x1 x2 x3 x4 x5->G):G:=by obtain ⟨y1,y2,y3,y4,⟨h1,h2⟩,h3,h4,y5,h5⟩:=h;exact g y1 y2 y3 y4 h1 h2 h3 h4 y5 h5
theorem ob68 {P1 P2 P3 P4:A1->A2->A3->A4->A5->A6->Prop} (h:∃x1 x2 x3 x4 x5 x6,(P1 x1 x2 x3 x4 x5 x6/\P2 x1 x2 x3 x4 x5 x6)/\P3 x1 x2 x3 x4 x5 x6/\P4 x1 x2 x3 x4 x5 x6) (g:∀x1 x2 x3 x4 x5 x6,P1 x1 x2 x3 x4 x5 x6->P2 x1 x2 x3 x4 x5 x6->P3 x1 x2 x3 x4 x5 x6->P4 x1 x2 x3 x4 x5 x6->G):G:=by obtain ⟨y1,y2,y3,y4,y5,y6,⟨h1,h2⟩,h3,h4⟩:=h;exact g y1 y2 y3 y4 y5 y6 h1 h2 h3 h4
theorem ob69 {P1 P2:Prop} {P3:A1->A2->A3->Prop} (h:P1/\P2/\(∃x1 x2 x3,P3 x1 x2 x3)) (g:P1->P2->∀x1 x2 x3,P3 x1 x2 x3->G):G:=by obtain ⟨h1,h2,y1,y2,y3,h3⟩:=h;exact g h1 h2 y1 y2 y3 h3
theorem ob70 {P1 P2 P3 P4 P5:A1->A2->A3->A4->A5->A6->Prop} (h:∃x1 x2 x3 x4 x5 x6,P1 x1 x2 x3 x4 x5 x6/\P2 x1 x2 x3 x4 x5 x6/\P3 x1 x2 x3 x4 x5 x6/\P4 x1 x2 x3 x4 x5 x6/\P5 x1 x2 x3 x4 x5 x6) (g:∀x1 x2 x3 x4 x5 x6,P1 x1 x2 x3 x4 x5 x6->P2 x1 x2 x3 x4 x5 x6->P3 x1 x2 x3 x4 x5 x6->P4 x1 x2 x3 x4 x5 x6->P5 x1 x2 x3 x4 x5 x6->G):G:=by obtain ⟨y1,y2,y3,y4,y5,y6,h1,h2,h3,h4,h5⟩:=h;exact g y1 y2 y3 y4 y5 y6 h1 h2 h3 h4 h5
theorem ob71 {P1 P2:A1->A2->A3->A4->A5->A6->Prop} (h:∃x1 x2 x3 x4 x5 x6,P1 x1 x2 x3 x4 x5 x6/\P2 x1 x2 x3 x4 x5 x6) (g:∀x1 x2 x3 x4 x5 x6,P1 x1 x2 x3 x4 x5 x6->P2 x1 x2 x3 x4 x5 x6->G):G:=by obtain ⟨y1,y2,y3,y4,y5,y6,h1,h2⟩:=h;exact g y1 y2 y3 y4 y5 y6 h1 h2
theorem ob72 {P1:Prop} {P2 P3:A1->Prop} (h:P1/\(∃x1,P2 x1/\P3 x1)) (g:P1->∀x1,P2 x1->P3 x1->G):G:=by obtain ⟨h1,y1,h2,h3⟩:=h;exact g h1 y1 h2 h3
theorem ob73 {P1 P2 P3 P4 P5:Prop} (h:P1/\P2/\P3/\P4/\P5) (g:P1->P2->P3->P4->P5->G):G:=by obtain ⟨h1,h2,h3,h4,h5⟩:=h;exact g h1 h2 h3 h4 h5
theorem ob74 {P1 P2:A1->Prop} {P3:Prop} (h:(∃x1,P1 x1/\P2 x1)/\P3) (g:∀x1,P1 x1->P2 x1->P3->G):G:=by obtain ⟨⟨y1,h1,h2⟩,h3⟩:=h;exact g y1 h1 h2 h3
theorem ob75 {P1 P2:Prop} {P3 P4:A1->Prop} (h:P1/\P2/\(∃x1,P3 x1/\P4 x1)) (g:P1->P2->∀x1,P3 x1->P4 x1->G):G:=by obtain ⟨h1,h2,y1,h3,h4⟩:=h;exact g h1 h2 y1 h3 h4
theorem ob76 {P1 P2:Prop} {P3:A1->A2->A3->A4->Prop} (h:P1/\P2/\(∃x1 x2 x3 x4,P3 x1 x2 x3 x4)) (g:P1->P2->∀x1 x2 x3 x4,P3 x1 x2 x3 x4->G):G:=by obtain ⟨h1,h2,y1,y2,y3,y4,h3⟩:=h;exact g h1 h2 y1 y2 y3 y4 h3
theorem ob77 {P1 P2:A1->A2->A3->A4->A5->Prop} (h:∃x1 x2 x3 x4 x5,P1 x1 x2 x3 x4 x5/\P2 x1 x2 x3 x4 x5) (g:∀x1 x2 x3 x4 x5,P1 x1 x2 x3 x4 x5->P2 x1 x2 x3 x4 x5->G):G:=by obtain ⟨y1,y2,y3,y4,y5,h1,h2⟩:=h;exact g y1 y2 y3 y4 y5 h1 h2
theorem ob78 {P1:Prop} {P2 P3 P4 P5 P6 P7 P8:A1->A2->A3->A4->A5->A6->A7->A8->A9->Prop} (h:P1/\(∃x1 x2 x3 x4 x5 x6 x7 x8 x9,P2 x1 x2 x3 x4 x5 x6 x7 x8 x9/\P3 x1 x2 x3 x4 x5 x6 x7 x8 x9/\P4 x1 x2 x3 x4 x5 x6 x7 x8 x9/\P5 x1 x2 x3 x4 x5 x6 x7 x8 x9/\P6 x1 x2 x3 x4 x5 x6 x7 x8 x9/\P7 x1 x2 x3 x4 x5 x6 x7 x8 x9/\P8 x1 x2 x3 x4 x5 x6 x7 x8 x9)) (g:P1->∀x1 x2 x3 x4 x5 x6 x7 x8 x9,P2 x1 x2 x3 x4 x5 x6 x7 x8 x9->P3 x1 x2 x3 x4 x5 x6 x7 x8 x9->P4 x1 x2 x3 x4 x5 x6 x7 x8 x9->P5 x1 x2 x3 x4 x5 x6 x7 x8 x9->P6 x1 x2 x3 x4 x5 x6 x7 x8 x9->P7 x1 x2 x3 x4 x5 x6 x7 x8 x9->P8 x1 x2 x3 x4 x5 x6 x7 x8 x9->G):G:=by obtain ⟨h1,y1,y2,y3,y4,y5,y6,y7,y8,y9,h2,h3,h4,h5,h6,h7,h8⟩:=h;exact g h1 y1 y2 y3 y4 y5 y6 y7 y8 y9 h2 h3 h4 h5 h6 h7 h8
theorem ob79 {P1 P2 P3 P4 P5 P6 P7:A1->A2->A3->A4->A5->A6->A7->A8->A9->Prop} (h:∃x1 x2 x3 x4 x5 x6 x7 x8 x9,(P1 x1 x2 x3 x4 x5 x6 x7 x8 x9/\P2 x1 x2 x3 x4 x5 x6 x7 x8 x9/\P3 x1 x2 x3 x4 x5 x6 x7 x8 x9)/\(P4 x1 x2 x3 x4 x5 x6 x7 x8 x9/\P5 x1 x2 x3 x4 x5 x6 x7 x8 x9/\P6 x1 x2 x3 x4 x5 x6 x7 x8 x9)/\P7 x1 x2 x3 x4 x5 x6 x7 x8 x9) (g:∀x1 x2 x3 x4 x5 x6 x7 x8 x9,P1 x1 x2 x3 x4 x5 x6 x7 x8 x9->P2 x1 x2 x3 x4 x5 x6 x7 x8 x9->P3 x1 x2 x3 x4 x5 x6 x7 x8 x9->P4 x1 x2 x3 x4 x5 x6 x7 x8 x9->P5 x1 x2 x3 x4 x5 x6 x7 x8 x9->P6 x1 x2 x3 x4 x5 x6 x7 x8 x9->P7 x1 x2 x3 x4 x5 x6 x7 x8 x9->G):G:=by obtain ⟨y1,y2,y3,y4,y5,y6,y7,y8,y9,⟨h1,h2,h3⟩,⟨h4,h5,h6⟩,h7⟩:=h;exact g y1 y2 y3 y4 y5 y6 y7 y8 y9 h1 h2 h3 h4 h5 h6 h7
theorem ob80 {P1 P2 P3:A1->A2->A3->A4->A5->Prop} (h:∃x1 x2 x3 x4 x5,(P1 x1 x2 x3 x4 x5/\P2 x1 x2 x3 x4 x5)/\P3 x1 x2 x3 x4 x5) (g:∀x1 x2 x3 x4 x5,P1 x1 x2 x3 x4 x5->P2 x1 x2 x3 x4 x5->P3 x1 x2 x3 x4 x5->G):G:=by obtain ⟨y1,y2,y3,y4,y5,⟨h1,h2⟩,h3⟩:=h;exact g y1 y2 y3 y4 y5 h1 h2 h3
set_option genInjectivity true
set_option genCtorIdx true
inductive V where
 |none |bool (b:Bool) |int (i:Int) |str (s:Str) |tup (vs:List V) |ref (a:Addr)
inductive AO where
 |list (vs:List V)
 |fixed (vs:List V)
 |dict (ks:List V)
 |inst (c:String) (d:Addr)
 |ns (fs:List (String×V))
 |exc (c:String)
abbrev Store:=Addr->Option AO
noncomputable def Store.upd (aa:Store) (a:Addr) (o:AO):Store:=fun b=>if b=a then some o else aa b
abbrev Loc:=List (Option V)
noncomputable def Loc.get (ad:Loc) (i:Nat):Option V:=(ad[i]?).join
abbrev XP:=String->Addr->Store->Prop
set_option genInjectivity false
set_option genCtorIdx false
structure Calls where
 has:String->String->Bool
 fld:String->String->Prop
 run:String->String->List V->Store->(V->Store->Prop)->XP->Prop
abbrev onT (b:Bool) (P:Prop):Prop:=Bool.rec False P b
theorem zbG {b:Bool} {P:Prop} (h:onT b P):b=true/\P:=by
 cases b
 ·exact h.elim
 ·exact ⟨rfl,h⟩
inductive B1 where
 |len |list |sorted |int |all |any |dict |other (e:Empty)
inductive M0 where
 |pop
inductive M1 where
 |append |remove |other (e:Empty)
inductive Ty where
 |int |bool |tuple |list |str |cls (c:String)
inductive Tg where
 |one (x:Nat)
 |many (xs:List Nat)
mutual
inductive Ex where
 |none |tt |ff |int (i:Int) |str (s:String)
 |var (x:Nat)
 |glob (x:String)
 |bin (op:Operator) (a b:Ex)
 |neg (a:Ex)
 |not (a:Ex)
 |cmp (op:CmpOp) (a b:Ex)
 |cmp2 (o₁ o₂:CmpOp) (a b c:Ex)
 |bool (isAnd:Bool) (es:Exs)
 |call (f:String) (es:Exs)
 |make (c:String) (es:Exs)
 |meth (o:Ex) (name:String) (es:Exs)
 |m0 (o:Ex) (m:M0)
 |m1 (o:Ex) (m:M1) (a:Ex)
 |attr (o:Ex) (name:String)
 |idx (o i:Ex)
 |slice (o:Ex) (lo hi:ExO)
 |list (es:Exs)
 |tuple (es:Exs)
 |dict0
 |dict1 (i:Nat)
 |comp (bs:List (String×Nat)) (elt:Ex) (t:Tg) (it:Ex) (cond:ExO)
 |b1 (f:B1) (e:Ex)
 |min2 (a b:Ex)
 |max2 (a b:Ex)
 |isin (e:Ex) (t:Ty)
 |range1 (a:Ex) |range2 (a b:Ex) |range3 (a b c:Ex)
 |sset (e:Ex)
inductive Exs where
 |nil
 |cons (e:Ex) (es:Exs)
inductive ExO where
 |none
 |some (e:Ex)
end
mutual
inductive St where
 |expr (e:Ex)
 |assign (t:Tg) (e:Ex)
 |setattr (o:Ex) (name:String) (e:Ex)
 |setitem (o i e:Ex)
 |ret (e:Ex)
 |raise (c msg:String)
 |iff (c:Ex) (th el:Sts)
 |whil (c:Ex) (body:Sts)
 |for (t:Tg) (it:Ex) (body:Sts)
 |tryx (body:Sts) (hs:Hs)
inductive Sts where
 |nil
 |cons (s:St) (r:Sts)
inductive Hs where
 |nil
 |cons (c:String) (x:Nat) (body:Sts) (r:Hs)
end
noncomputable def zao:Nat:=1000000
noncomputable def ziT (i:Int) (n:Nat):Option Nat:=
 if 0<=i then (if i.toNat<n then some i.toNat else none)
 else if -(n:Int)<=i then some (i+n).toNat else none
noncomputable def zbY (f:V->V->Option Bool):List V->List V->Option Bool
 | [],[]=>some true
 |u::us,v::vs=>
  match f u v,zbY f us vs with
  |some a,some b=>some (a&&b)
  |_,_=>none
 |_,_=>some false
noncomputable def eqB:V->V->Option Bool
 |.none,v=>(match v with |.none=>some true |_=>none)
 |.bool a,v=>(match v with |.bool b=>some (a==b) |_=>none)
 |.int a,v=>(match v with |.int b=>some (a==b) |_=>none)
 |.str a,v=>(match v with |.str b=>some (a==b) |_=>none)
 |.tup _,_=>none
 |.ref _,_=>none
noncomputable def asL:Option AO->Option (List V)
 |some (.list us)=>some us
 |_=>none
noncomputable def eqv (aa:Store):Nat->V->V->Option Bool
 | 0,u,v=>eqB u v
 |n+1,u,v=>match u with
  |.tup us=>(match v with |.tup vs=>zbY (eqv aa n) us vs |_=>none)
  |.ref a=>(match v with
   |.ref b=>(asL (aa a)).bind fun us=>(asL (aa b)).bind fun vs=>if us.length=vs.length then zbY (eqv aa n) us vs else some false
   |_=>none)
  |_=>eqB u v
noncomputable def fuel:Nat:=6
variable {aa:Store}
theorem zmR {p q:Int×Int}:eqv aa fuel (.tup [.int p.1,.int p.2]) (.tup [.int q.1,.int q.2])=some (decide (p=q)):=by
 have h:eqv aa fuel (.tup [.int p.1,.int p.2]) (.tup [.int q.1,.int q.2])=some ((p.1==q.1)&&((p.2==q.2)&&true)):=rfl;rw [h,Bool.and_true]
 congr 1
 rw [Bool.eq_iff_iff,decide_eq_true_iff,qae,beq_iff_eq,beq_iff_eq,Prod.ext_iff]
noncomputable def truthy (_:Store):V->Option Bool
 |.none=>some false
 |.bool b=>some b
 |.int i=>some (i != 0)
 |_=>none
noncomputable def excNames:List String:=["BadNet", "NoPlace", "BadPairs", "BadWay", "TieThere", "NoTie", "OddRing"]
noncomputable def zdc (c C:String):Bool:=c==C||C == "NetError" || C == "ValueError"
noncomputable def zdA (aa:Store) (v:V):Ty->Option Bool
 |.int=>match v with |.int _=>some true |.bool _=>some true |.str _=>some false |.none=>some false |_=>none
 |.bool=>match v with |.int _=>some false |.bool _=>some true |_=>none
 |.tuple=>match v with |.tup _=>some true |_=>none
 |.list=>match v with |.ref a=>(asL (aa a)).map fun J=>true |.none=>some false |_=>none
 |.str=>match v with |.str _=>some true |_=>none
 |.cls C=>match v with
  |.ref a=>match aa a with
   |some (.exc c)=>if c∈excNames then some (zdc c C) else none
   |_=>none
  |_=>none
noncomputable def zhd (u v:V):Bool:=match u,v with
 |.int a,.int b=>a==b
 |.tup [.int a,.int b],.tup [.int c,.int d]=>a==c&&b==d
 |_,_=>false
noncomputable def zc9:V->Bool
 |.int _=>true
 |_=>false
noncomputable def asP:V->Option (Int×Int)
 |.tup [.int a,.int b]=>some (a,b)
 |_=>none
noncomputable def zff (v:V):Bool:=(asP v).isSome
noncomputable def zbJ (ks:List V):Bool:=ks.all zc9||ks.all zff
noncomputable def zbK (k:V) (ks:List V):Bool:=ks.any fun x=>zhd x k
noncomputable def zaY (k:V) (ks:List V):List V:=if zbK k ks then ks else ks++[k]
noncomputable def memV (aa:Store) (x:V):List V->Option Bool
 | []=>some false
 |y::ys=>match eqv aa fuel y x,memV aa x ys with
  |some a,some b=>some (a||b)
  |_,_=>none
noncomputable def inV (aa:Store) (x:V):V->Option Bool
 |.tup vs=>memV aa x vs
 |.ref a=>match aa a with
  |some (.list vs)=>memV aa x vs
  |some (.dict ks)=>if zbJ (x::ks) then some (zbK x ks) else none
  |_=>none
 |_=>none
noncomputable def zht (u v:V) (f:Int->Int->Bool):Option Bool:=match u,v with |.int a,.int b=>some (f a b) |_,_=>none
noncomputable def ltP (u v:V):Option Bool:=(asP u).elim (zht u v fun a b=>decide (a<b)) fun p=>(asP v).elim (zht u v fun a b=>decide (a<b)) fun q=>some (decide (p.1<q.1)||(p.1==q.1&&decide (p.2<q.2)))
noncomputable def noB (u:V):Bool:=match u with |.none=>true |_=>false
noncomputable def isNo (u v:V):Option Bool:=match v with
 |.none=>some (noB u)
 |_=>none
noncomputable def cmpV (aa:Store) (op:CmpOp) (u v:V):Option Bool:=
 match op with
 |.Eq=>eqv aa fuel u v
 |.NotEq=>(eqv aa fuel u v).map (!·)
 |.Lt=>ltP u v
 |.LtE=>zht u v fun a b=>decide (a<=b)
 |.Gt=>zht u v fun a b=>decide (b<a)
 |.GtE=>zht u v fun a b=>decide (b<=a)
 |.Is=>isNo u v
 |.IsNot=>(isNo u v).map (!·)
 |.In=>inV aa u v
 |.NotIn=>(inV aa u v).map (!·)
noncomputable def ints?:List V->Option (List Int)
 | []=>some []
 |.int i::r=>(ints? r).map (i :: ·)
 |_=>none
noncomputable def pr (p:Int×Int):V:=.tup [.int p.1,.int p.2]
def zaK (p q:Int×Int):Prop:=p.1<q.1\/(p.1=q.1/\p.2<q.2)
noncomputable def zdh (vs:List V):Option (List V):=
 if vs.length<64 then
  match ints? vs with
  |some ns=>some ((ns.mergeSort (fun a b=>decide (a<=b))).map V.int)
  |none=>none
 else none
def zni (vs:List V) (K:List V->Prop):Prop:=∃ps:List (Int×Int),(vs=ps.map pr/\ps.Nodup/\ps.length<64)/\∀qs:List (Int×Int),qs.Perm ps->qs.Pairwise zaK->K (qs.map pr)
def zam {α:Type} (o:Option α) (K:α->Prop):Prop:=match o with |some a=>K a |none=>False
@[simp] theorem zas {α:Type} {a:α} {K:α->Prop}:zam (some a) K=K a:=rfl
@[simp] theorem znt {α:Type} {K:α->Prop}:zam none K=False:=rfl
def zbt (v:V) (K:Int->Prop):Prop:=match v with |.int i=>K i |_=>False
@[simp] theorem zc5 {i:Int} {K:Int->Prop}:zbt (.int i) K=K i:=rfl
def zaL (aa:Store) (v:V) (K:Addr->List V->Prop):Prop:=match v with
 |.ref a=>match aa a with |some (.list vs)=>K a vs |_=>False
 |_=>False
variable {a:Addr} {vs:List V}
theorem zak {aa:Store} {K:Addr->List V->Prop} (h:aa a=some (.list vs)) (k:K a vs):zaL aa (.ref a) K:=by
 show (match aa a with |some (.list vs)=>K a vs |_=>False)
 rw [h];exact k
def zg1 (md:Bool) (aa:Store) (v:V) (K:List V->Prop):Prop:=match v with
 |.ref a=>match aa a with
  |some (.list vs)=>K vs
  |some (.dict ks)=>md=true/\K ks
  |_=>False
 |_=>False
variable {md:Bool}
theorem ziW {K:List V->Prop} (h:aa a=some (.list vs)) (k:K vs):zg1 md aa (.ref a) K:=by
 show (match aa a with |some (.list vs)=>K vs |some (.dict ks)=>md=true/\K ks |_=>False)
 rw [h];exact k
theorem ziY {K:List V->Prop} (h:aa a=some (.dict vs)) (k:K vs):zg1 true aa (.ref a) K:=by simp only [zg1,h];exact ⟨trivial,k⟩
def alloc (aa:Store) (o:AO) (Q:V->Store->Prop):Prop:=∀a,aa a=none->Q (.ref a) (aa.upd a o)
def onII (u v:V) (K:Int->Int->Prop):Prop:=match u,v with |.int a,.int b=>K a b |_,_=>False
def binV (op:Operator) (u v:V) (aa:Store) (Q:V->Store->Prop):Prop:=
 match op with
 |.Add=>match u with
  |.ref a=>zaL aa (.ref a) fun J us=>zaL aa v fun J vs=>us.length+vs.length<=zao/\alloc aa (.list (us++vs)) Q
  |_=>onII u v fun a b=>Q (.int (a+b)) aa
 |.Sub=>onII u v fun a b=>Q (.int (a-b)) aa
 |.Mult=>match u with
  |.str z=>zbt v fun n=>(0<=n/\n<=1)/\Q (.str (if n=1 then z else Str.empty)) aa
  |_=>onII u v fun a b=>(a.natAbs<2^32/\b.natAbs<2^32)/\Q (.int (a*b)) aa
 |.FloorDiv=>onII u v fun a b=>(0<b/\b<1000000000)/\Q (.int (a.fdiv b)) aa
 |.Mod=>onII u v fun a b=>0<b/\Q (.int (a.fmod b)) aa
 |.Pow=>onII u v fun a b=>(a=10/\b=9)/\Q (.int 1000000000) aa
 |_=>False
def zg4 (aa:Store) (v:V) (K:List V->Prop):Prop:=match v with
 |.tup vs=>vs.length<=zao/\K vs
 |.ref a=>match aa a with |some (.list vs)=>K vs |some (.fixed vs)=>K vs |_=>False
 |_=>False
def idxV (u v:V) (aa:Store) (Q:V->Prop):Prop:=
 zg4 aa u fun vs=>zbt v fun i=>zam (ziT i vs.length) fun k=>zam vs[k]? Q
def zhS (u lo hi:V) (aa:Store) (Q:V->Store->Prop):Prop:=
 zaL aa u fun J vs=>(lo=.int 1/\hi=.none)/\alloc aa (.list (vs.drop 1)) Q
noncomputable def bools?:List V->Option (List Bool)
 | []=>some []
 |.bool b::r=>(bools? r).map (b :: ·)
 |_=>none
def b1V (md:Bool) (f:B1) (v:V) (aa:Store) (Q:V->Store->Prop):Prop:=
 match f with
 |.len=>zg4 aa v fun vs=>Q (.int vs.length) aa
 |.list=>zaL aa v fun J vs=>vs.length<=zao/\alloc aa (.list vs) Q
 |.sorted=>(zg1 md aa v fun vs=>zam (zdh vs) fun ws=>alloc aa (.list ws) Q)\/zaL aa v fun J vs=>zni vs fun ws=>alloc aa (.list ws) Q
 |.int=>match v with
  |.bool b=>Q (.int (if b then 1 else 0)) aa
  |_=>False
 |.all=>md=true/\zaL aa v fun J vs=>zam (bools? vs) fun bs=>Q (.bool (bs.all id)) aa
 |.any=>md=true/\zaL aa v fun J vs=>zam (bools? vs) fun bs=>Q (.bool (bs.any id)) aa
 |.dict=>md=true/\zaL aa v fun J vs=>∃ns:List Int,(vs=ns.map (fun n=>V.tup [.int n,.bool true])/\vs.length<=1000)/\alloc aa (.dict ((ns.map V.int).foldl (fun d k=>zaY k d) [])) Q
 |.other _=>False
def znf (md:Bool) (v:V) (aa:Store) (Q:V->Store->Prop):Prop:=
 md=true/\zaL aa v fun J vs=>zam (ints? vs) fun ns=>(vs.length<64/\ns.Nodup)/\∀ws:List Int,ws.Pairwise (· < ·)->(∀x,x∈ws↔x∈ns)->alloc aa (.list (ws.map V.int)) Q
def m0V (m:M0) (v:V) (aa:Store) (Q:V->Store->Prop):Prop:=
 zaL aa v fun a vs=>match m with
 |.pop=>match vs.reverse with | []=>False |x::r=>Q x (aa.upd a (.list r.reverse))
def m1V (m:M1) (v x:V) (aa:Store) (Q:V->Store->Prop):Prop:=
 zaL aa v fun a vs=>match m with
 |.append=>vs.length<zao/\Q .none (aa.upd a (.list (vs++[x])))
 |.remove=>∃(P R:List (Int×Int)) (p:Int×Int),(vs=(P++p::R).map (fun p=>V.tup [.int p.1,.int p.2])/\x=.tup [.int p.1,.int p.2]/\p∉P)/\Q .none (aa.upd a (.list ((P++R).map fun p=>V.tup [.int p.1,.int p.2])))
 |.other _=>False
def za4 (u i x:V) (aa:Store) (Q:Store->Prop):Prop:=
 match u with
 |.ref a=>match aa a with
  |some (.list vs)=>zbt i fun j=>(0<=j/\j<vs.length)/\Q (aa.upd a (.list (vs.set j.toNat x)))
  |some (.dict ks)=>(zbJ (i::ks)=true/\ks.length<zao/\x=.bool true)/\Q (aa.upd a (.dict (zaY i ks)))
  |_=>False
 |_=>False
def zeI (aa:Store) (u:V) (K:String->Addr->List (String×V)->Prop):Prop:=match u with
 |.ref a=>match aa a with
  |some (.inst c d)=>match aa d with |some (.ns fs)=>K c d fs |_=>False
  |_=>False
 |_=>False
theorem zah {aa:Store} {d:Addr} {c:String} {fs:List (String×V)} {K} (h:aa a=some (.inst c d)) (h':aa d=some (.ns fs)) (k:K c d fs):zeI aa (.ref a) K:=by
 show (match aa a with |some (.inst c d)=>(match aa d with |some (.ns fs)=>K c d fs |_=>False) |_=>False)
 rw [h];show (match aa d with |some (.ns fs)=>K c d fs |_=>False)
 rw [h'];exact k
def zb9 (F:String->String->Prop) (u:V) (name:String) (aa:Store) (Q:V->Prop):Prop:=zeI aa u fun c J fs=>F c name/\zam (fs.lookup name) Q
noncomputable def putF (name:String) (x:V):List (String×V)->List (String×V)
 | []=>[(name,x)]
 |(n,v)::r=>if n=name then (n,x)::r else (n,v)::putF name x r
def zdE (F:String->String->Prop) (u:V) (name:String) (x:V) (aa:Store) (Q:Store->Prop):Prop:=zeI aa u fun c d fs=>(F c name/\fs.length<100)/\Q (aa.upd d (.ns (putF name x fs)))
def zb6 (v:V) (aa:Store) (Q:List V->(Store->Prop)->Prop):Prop:=
 match v with
 |.tup vs=>Q vs fun J=>True
 |.ref a=>zaL aa (.ref a) fun a vs=>Q vs fun ac=>ac a=some (.list vs)
 |_=>False
noncomputable def upto (lo hi step:Int):List Int:=
 if 0<step then (List.range ((hi-lo+step-1)/step).toNat).map fun k=>lo+step*(k:Nat) else []
noncomputable def zay:Tg->V->Loc->Option Loc
 |.one i,v,ad=>some (ad.set i (some v))
 |.many is,.tup vs,ad=>if is.length=vs.length then some ((is.zip vs).foldl (fun r p=>r.set p.1 (some p.2)) ad) else none
 |_,_,_=>none
def zbR (chk:Store->Prop) (B:V->Store->(Option V->Store->Prop)->Prop) (Q:V->Store->Prop):List V->List V->Store->Prop
 | [],acc,aa=>chk aa/\alloc aa (.list acc) Q
 |v::r,acc,aa=>chk aa/\acc.length<zao/\B v aa fun x ac=>zbR chk B Q r (match x with |some x=>acc++[x] |none=>acc) ac
def forV (chk:Store->Prop) (B:V->Loc->Store->(Loc->Store->Prop)->Prop) (Q:Loc->Store->Prop):List V->Loc->Store->Prop
 | [],ad,aa=>chk aa/\Q ad aa
 |v::r,ad,aa=>chk aa/\B v ad aa fun ak ac=>forV chk B Q r ak ac
def zdQ (C:Loc->Store->(Bool->Store->Prop)->Prop) (B:Loc->Store->(Loc->Store->Prop)->Prop) (Q:Loc->Store->Prop):Nat->Loc->Store->Prop
 | 0,_,_=>False
 |n+1,ad,aa=>C ad aa fun b ac=>if b then B ad ac (fun ak aD=>zdQ C B Q n ak aD) else Q ad ac
noncomputable def noX:XP:=fun J J J=>False
noncomputable def tgOk (md:Bool):Tg->Bool
 |.one _=>true
 |.many _=>md
noncomputable def zkx:String->Option Int
 | "MOST_PLACES" => some 40
 |_=>none
def itR1 (u:V) (aa:Store) (K:List V->(Store->Prop)->Store->Prop):Prop:=zbt u fun n=>(n<2^31/\-(2^31)<n)/\K ((upto 0 n 1).map V.int) (fun J=>True) aa
def itR2 (u v:V) (aa:Store) (K:List V->(Store->Prop)->Store->Prop):Prop:=zbt u fun m=>zbt v fun n=>(n<2^31/\-(2^31)<n/\m<2^31/\-(2^31)<m)/\K ((upto m n 1).map V.int) (fun J=>True) aa
def itR3 (u v x:V) (aa:Store) (K:List V->(Store->Prop)->Store->Prop):Prop:=zbt u fun m=>zbt v fun n=>zbt x fun k=>(n<2^31/\-(2^31)<n/\m<2^31/\-(2^31)<m/\0<k/\k<1000000000)/\K ((upto m n k).map V.int) (fun J=>True) aa
mutual
def wpE (af:Calls) (md:Bool):Ex->Loc->Store->(V->Store->Prop)->XP->Prop
 |.none,_,aa,Q,_=>Q .none aa
 |.tt,_,aa,Q,_=>Q (.bool true) aa
 |.ff,_,aa,Q,_=>Q (.bool false) aa
 |.int i,_,aa,Q,_=>Q (.int i) aa
 |.str s,_,aa,Q,_=>Q (.str (Str.ofString s)) aa
 |.var i,ad,aa,Q,_=>zam (ad.get i) fun v=>Q v aa
 |.glob x,_,aa,Q,_=>zam (zkx x) fun i=>Q (.int i) aa
 |.bin op a b,ad,aa,Q,X=>wpE af md a ad aa (fun u ae=>wpE af md b ad ae (fun v ah=>binV op u v ah Q) X) X
 |.neg a,ad,aa,Q,X=>wpE af md a ad aa (fun u ae=>zbt u fun i=>Q (.int (-i)) ae) X
 |.not a,ad,aa,Q,X=>wpE af md a ad aa (fun u ae=>zam (truthy ae u) fun b=>Q (.bool (!b)) ae) X
 |.cmp op a b,ad,aa,Q,X=>wpE af md a ad aa (fun u ae=>wpE af md b ad ae (fun v ah=>zam (cmpV ah op u v) fun r=>Q (.bool r) ah) X) X
 |.cmp2 o₁ o₂ a b c,ad,aa,Q,X=>wpE af md a ad aa (fun u ae=>wpE af md b ad ae (fun v ah=>zam (cmpV ah o₁ u v) fun r=>
   if r then wpE af md c ad ah (fun x aq=>zam (cmpV aq o₂ v x) fun r'=>Q (.bool r') aq) X else Q (.bool false) ah) X) X
 |.bool isAnd es,ad,aa,Q,X=>zdv af md isAnd es ad aa Q X
 |.call f es,ad,aa,Q,X=>onT (af.has "" f) (wpEs af md es ad aa (fun vs ae=>af.run "" f vs ae Q X) X)
 |.make c es,ad,aa,Q,X=>onT (af.has c "__init__") (wpEs af md es ad aa (fun vs ae=>∀x d,ae x=none->ae d=none->x≠d ->
   af.run c "__init__" (.ref x::vs) ((ae.upd d (.ns [])).upd x (.inst c d)) (fun r ah=>r=.none/\Q (.ref x) ah) X) X)
 |.meth o name es,ad,aa,Q,X=>wpE af md o ad aa (fun u ae=>zeI ae u fun c J fs=>(fs.lookup name=none/\af.has c name=true)/\wpEs af md es ad ae (fun vs ah=>af.run c name (u::vs) ah Q X) X) X
 |.m0 o m,ad,aa,Q,X=>wpE af md o ad aa (fun u ae=>m0V m u ae Q) X
 |.m1 o m a,ad,aa,Q,X=>wpE af md o ad aa (fun u ae=>zaL ae u fun J J=>wpE af md a ad ae (fun x ah=>m1V m u x ah Q) X) X
 |.attr o name,ad,aa,Q,X=>wpE af md o ad aa (fun u ae=>zb9 af.fld u name ae fun x=>Q x ae) X
 |.idx o i,ad,aa,Q,X=>wpE af md o ad aa (fun u ae=>wpE af md i ad ae (fun v ah=>idxV u v ah fun x=>Q x ah) X) X
 |.slice o lo hi,ad,aa,Q,X=>wpE af md o ad aa (fun u ae=>wpO af md lo ad ae (fun l ah=>wpO af md hi ad ah (fun h aq=>zhS u l h aq Q) X) X) X
 |.list es,ad,aa,Q,X=>wpEs af md es ad aa (fun vs ae=>vs.length<=zao/\alloc ae (.list vs) Q) X
 |.tuple es,ad,aa,Q,X=>wpEs af md es ad aa (fun vs ae=>vs.length<=zao/\Q (.tup vs) ae) X
 |.dict0,_,aa,Q,_=>alloc aa (.dict []) Q
 |.dict1 i,ad,aa,Q,_=>zam (ad.get i) fun u=>zc9 u=true/\alloc aa (.dict [u]) Q
 |.comp _ elt t it cond,ad,aa,Q,X=>onT md
   (let K:=fun (items:List V) (chk:Store->Prop) (ae:Store)=>zbR chk (fun v ah K=>zam (zay t v ad) fun ak=>wpC af md cond ak ah (fun b aq=>if b then wpE af md elt ak aq (fun x aF=>K (some x) aF) noX else K none aq) noX) Q items [] ae
    match it with
    |.range1 a=>wpE af md a ad aa (fun u ae=>itR1 u ae K) X
    |.range2 a b=>wpE af md a ad aa (fun u ae=>wpE af md b ad ae (fun v ah=>itR2 u v ah K) X) X
    |.range3 a b c=>wpE af md a ad aa (fun u ae=>wpE af md b ad ae (fun v ah=>wpE af md c ad ah (fun x aq=>itR3 u v x aq K) X) X) X
    |e=>wpE af md e ad aa (fun u ae=>zb6 u ae fun items chk=>K items chk ae) X)
 |.b1 f e,ad,aa,Q,X=>wpE af md e ad aa (fun u ae=>b1V md f u ae Q) X
 |.min2 a b,ad,aa,Q,X=>onT md (wpE af md a ad aa (fun u ae=>wpE af md b ad ae (fun v ah=>zbt u fun i=>zbt v fun j=>Q (.int (min i j)) ah) X) X)
 |.max2 a b,ad,aa,Q,X=>onT md (wpE af md a ad aa (fun u ae=>wpE af md b ad ae (fun v ah=>zbt u fun i=>zbt v fun j=>Q (.int (max i j)) ah) X) X)
 |.isin e t,ad,aa,Q,X=>wpE af md e ad aa (fun u ae=>zam (zdA ae u t) fun b=>Q (.bool b) ae) X
 |.sset e,ad,aa,Q,X=>wpE af md e ad aa (fun u ae=>znf md u ae Q) X
 |.range1 _,_,_,_,_=>False
 |.range2 _ _,_,_,_,_=>False
 |.range3 _ _ _,_,_,_,_=>False
def wpEs (af:Calls) (md:Bool):Exs->Loc->Store->(List V->Store->Prop)->XP->Prop
 |.nil,_,aa,Q,_=>Q [] aa
 |.cons e es,ad,aa,Q,X=>wpE af md e ad aa (fun v ae=>wpEs af md es ad ae (fun vs ah=>Q (v::vs) ah) X) X
def zdv (af:Calls) (md:Bool) (isAnd:Bool):Exs->Loc->Store->(V->Store->Prop)->XP->Prop
 |.nil,_,_,_,_=>False
 |.cons e .nil,ad,aa,Q,X=>wpE af md e ad aa Q X
 |.cons e es,ad,aa,Q,X=>wpE af md e ad aa (fun v ae=>zam (truthy ae v) fun b=>if b=isAnd then zdv af md isAnd es ad ae Q X else Q v ae) X
def wpO (af:Calls) (md:Bool):ExO->Loc->Store->(V->Store->Prop)->XP->Prop
 |.none,_,aa,Q,_=>Q .none aa
 |.some e,ad,aa,Q,X=>wpE af md e ad aa Q X
def wpC (af:Calls) (md:Bool):ExO->Loc->Store->(Bool->Store->Prop)->XP->Prop
 |.none,_,aa,Q,_=>Q true aa
 |.some e,ad,aa,Q,X=>wpE af md e ad aa (fun v ae=>zam (truthy ae v) fun b=>Q b ae) X
end
def wpIt (af:Calls) (md:Bool) (it:Ex) (ad:Loc) (aa:Store) (K:List V->(Store->Prop)->Store->Prop) (X:XP):Prop:=
 match it with
 |.range1 a=>wpE af md a ad aa (fun u ae=>itR1 u ae K) X
 |.range2 a b=>wpE af md a ad aa (fun u ae=>wpE af md b ad ae (fun v ah=>itR2 u v ah K) X) X
 |.range3 a b c=>wpE af md a ad aa (fun u ae=>wpE af md b ad ae (fun v ah=>wpE af md c ad ah (fun x aq=>itR3 u v x aq K) X) X) X
 |e=>wpE af md e ad aa (fun u ae=>zb6 u ae fun items chk=>K items chk ae) X
noncomputable def drp (_:V):Bool:=true
@[simp] theorem zfn {v:V}:drp v=true:=rfl
abbrev XL:=String->Addr->Loc->Store->Prop
mutual
def wpS (af:Bool->Calls) (md:Bool):St->Loc->Store->(Loc->Store->Prop)->(V->Store->Prop)->XL->Prop
 |.expr e,ad,aa,N,_,X=>wpE (af md) md e ad aa (fun v ae=>onT (drp v) (N ad ae)) fun c a ae=>X c a ad ae
 |.assign t e,ad,aa,N,_,X=>onT (tgOk md t) (wpE (af md) md e ad aa (fun v ae=>zam (zay t v ad) fun ak=>N ak ae) fun c a ae=>X c a ad ae)
 |.setattr o name e,ad,aa,N,_,X=>wpE (af md) md e ad aa (fun v ae=>wpE (af md) md o ad ae (fun u ah=>zdE (af md).fld u name v ah fun aq=>N ad aq) fun c a ae=>X c a ad ae) fun c a ae=>X c a ad ae
 |.setitem o i e,ad,aa,N,_,X=>wpE (af md) md e ad aa (fun v ae=>wpE (af md) md o ad ae (fun u ah=>wpE (af md) md i ad ah (fun k aq=>za4 u k v aq fun aF=>N ad aF)
   fun c a ae=>X c a ad ae) fun c a ae=>X c a ad ae) fun c a ae=>X c a ad ae
 |.ret e,ad,aa,_,R,X=>wpE (af md) md e ad aa R fun c a ae=>X c a ad ae
 |.raise c _,ad,aa,_,_,X=>(md=true/\c∈excNames)/\∀a,aa a=none->X c a ad aa
 |.iff c th el,ad,aa,N,R,X=>wpE (af md) md c ad aa (fun v ae=>zam (truthy ae v) fun b=>if b then wpSs af md th ad ae N R X else wpSs af md el ad ae N R X) fun c a ae=>X c a ad ae
 |.whil c body,ad,aa,N,R,X=>∃n,zdQ (fun ad aa K=>wpE (af md) md c ad aa (fun v ae=>zam (truthy ae v) fun b=>K b ae) fun c a ae=>X c a ad ae)
   (fun ad aa K=>wpSs af md body ad aa K R X) N n ad aa
 |.for t it body,ad,aa,N,R,X=>onT md (wpIt (af md) md it ad aa (fun items chk ae=>forV chk (fun v ad aa K=>zam (zay t v ad) fun ak=>wpSs af md body ak aa K R X) N items ad ae)
   fun c a ae=>X c a ad ae)
 |.tryx body hs,ad,aa,N,R,X=>onT md (wpSs af md body ad aa N R fun c a ak ac=>wpHs af hs c a ak ac N R X)
def wpSs (af:Bool->Calls) (md:Bool):Sts->Loc->Store->(Loc->Store->Prop)->(V->Store->Prop)->XL->Prop
 |.nil,ad,aa,N,_,_=>N ad aa
 |.cons s r,ad,aa,N,R,X=>wpS af md s ad aa (fun aE ae=>wpSs af md r aE ae N R X) R X
def wpHs (af:Bool->Calls):Hs->String->Addr->Loc->Store->(Loc->Store->Prop)->(V->Store->Prop)->XL->Prop
 |.nil,c,a,ad,aa,_,_,X=>X c a ad aa
 |.cons C x body r,c,a,ad,aa,N,R,X=>
  if c=C then wpSs af false body (ad.set x (some (.ref a))) (aa.upd a (.exc c)) (fun ak ac=>N (ak.set x none) ac) R (fun J J J J=>False)
  else wpHs af r c a ad aa N R X
end
structure Fn where
 params:List String
 names:List String
 size:Nat
 body:Sts
def wpFn (af:Bool->Calls) (md:Bool) (f:Fn) (args:List V) (aa:Store) (Q:V->Store->Prop) (X:XP):Prop:=
 args.length=f.params.length/\wpSs af md f.body (args.map some++List.replicate (f.size-args.length) none) aa (fun J ac=>Q .none ac) Q fun c a J ac=>X c a ac
noncomputable def shut {α:Type} (a:α):α:=Classical.choose (⟨a,rfl⟩:∃x,x=a)
theorem znj {α:Type} (a:α):shut a=a:=Classical.choose_spec (⟨a,rfl⟩:∃x,x=a)
abbrev Run:=String->String->List V->Store->(V->Store->Prop)->XP->Prop
noncomputable def semR (tab:String->String->Option Fn) (fld:String->String->Bool):Nat->Bool->Run
 | 0,_=>fun J J J J J J=>False
 |k+1,md=>fun c f vs aa Q X=>zam (tab c f) fun fn=>wpFn (fun md=>⟨fun c f=>(tab c f).isSome,fun c f=>fld c f=true,shut (semR tab fld k md)⟩) md fn vs aa Q X
noncomputable def sem (tab:String->String->Option Fn) (fld:String->String->Bool) (k:Nat) (md:Bool):Calls:=⟨fun c f=>(tab c f).isSome,fun c f=>fld c f=true,shut (semR tab fld k md)⟩
theorem zgY {tab:String->String->Option Fn} {fld:String->String->Bool} {k:Nat}:(sem tab fld k md).run=semR tab fld k md:=znj _
theorem zld {af:Calls} {bs:List (String×Nat)} {elt it:Ex} {t:Tg} {cond:ExO} {ad:Loc} {Q:V->Store->Prop} {X:XP}:wpE af md (.comp bs elt t it cond) ad aa Q X=onT md (wpIt af md it ad aa (fun items chk ae=>
   zbR chk (fun v ah K=>zam (zay t v ad) fun ak=>wpC af md cond ak ah (fun b aq=>if b then wpE af md elt ak aq (fun x aF=>K (some x) aF) noX else K none aq) noX) Q items [] ae) X):=by
 cases it<;>rfl
end Mine.Internal
end
section
open PySem PySem.W PyProof.Rows PySem.W.Fast
namespace Mine.Internal
noncomputable def goT (p:Program) (w:World) (m:Nat) (a:Option Value) (n:Nat):SharedT->Thread->Option SharedT:=
 @Nat.rec (fun J=>_) (fun J J=>none)
  (fun J ih s t=>bif through t then some s else bif tw6613529449190102663 m a t then (tw10156331382660048174 (tw11892475500146522536 tw14364793385576792824) p w s t).bind fun r=>ih r.1 r.2 else none) n
theorem zmO {p:Program} {w:World} {m:Nat} {a:Option Value}:∀{n:Nat} {s s':SharedT} {t:Thread},goT p w m a n s t=some s'->topRun treeTable p w m a n s.abs t=some s'.abs
 | 0,_,_,_,h=>nomatch (h:none=some _)
 |n+1,s,s',t,h=>by
  have h:(bif through t then some s else bif stepOk m a t then (stepT (denote treeTable) p w s t).bind fun r=>goT p w m a n r.1 r.2 else none)=some s':=by
   rw [te6613529449190102663,te10156331382660048174,te11892475500146522536,te14364793385576792824];exact h
  unfold topRun;cases e:through t with
  |true=>rw [e] at h;cases h;rfl
  |false=>
   rw [e] at h;cases b:stepOk m a t with
   |false=>rw [b] at h;cases h
   |true=>
    rw [b] at h;refine ob1 (Option.bind_eq_some_iff.mp h) ?_;intro r c h;rw [stepT_spec c];exact zmO h
noncomputable def zps (P:Params) (os:OsState):SharedT:=⟨(boot_heap P).objs.toList.zipIdx.foldl (fun t o=>t.ins o.2 o.1) .nil,(boot_heap P).objs.size,(boot_heap P).life,Array.mk [],boot_drawn,boot_toks,os⟩
theorem zkQ (P:Params) (os:OsState):(zps P os).abs=⟨boot_heap P,Array.mk [],boot_drawn,boot_toks,os⟩:=by kernel_rfl
theorem zoo (P:Params):(boot_heap P).isNs mainGlobals=true:=by kernel_rfl
noncomputable def endT (p:Program) (w:World) (N:Nat) (os:OsState):Option Shared:=
 (goT p w (boot_heap w.params).objs.size ((boot_heap w.params).nsMap mainGlobals "__annotations__") N (zps w.params os) (topStub p)).bind fun s=>
  match staticsOk (importedModules p.main.body) (boot_heap w.params) s.abs.heap&&namesBound p s.abs.heap&&gensDone s.abs&&laidKept (boot_heap w.params) s.abs.heap with
  |true=>some s.abs
  |false=>none
theorem znF {p q:Program} {loose:List Str} {Xt Yf:Shared->Bool} {N:Nat} (e:opening p=plainProg p.main.scope.names) (hN:Nat.ble 600 N=true) (f:∀s,fenceModules? p s=some s)
  (a:∀w os,(endT p w N os).map (fun s=>openSeen q loose (importedModules p.main.body) Xt true s)=some (openGood q loose)) (b:∀w os,(endT p w N os).map Yf=some true):LeftO p q loose Xt Yf (fun J=>true) N:=fun w=>by
 refine ob1 (Option.map_eq_some_iff.mp (boot_open e hN f w)) ?_;intro z e1 e2;refine ob1 (Option.map_eq_some_iff.mp (a w z.os)) ?_;intro s hs hy;have hb:=b w z.os;rw [hs] at hb;refine ob1 (Option.bind_eq_some_iff.mp hs) ?_;intro s' hs' g;have r:=zmO hs';rw [zkQ] at r;unfold openEnds;rw [e1.trans (congrArg (fun x=>some (⟨x.1,x.2.1,x.2.2.1,x.2.2.2,z.os⟩:Shared)) e2),Option.bind_some];unfold topFrom;dsimp only;rw [zoo,r];refine (congrArg (Option.map _) g).trans ?_;rw [Option.map_some,hy,Option.some.inj hb]
end Mine.Internal
end
section
open PySem PySem.W PyProof.Rows
namespace Mine.Internal
noncomputable def zo5:List Nat:=(List.range 47).filter fun i=>i != 0&&i != 9&&i != 14&&i != 19&&i != 25&&i != 27&&i != 30
noncomputable def q11:Program:=view Challenge.pw_uf010024_11 zo5
theorem znH:∀w os,(endT Challenge.pw_uf010024_11 w 7522 os).map (fun s=>openSeen q11 [] (importedModules Challenge.pw_uf010024_11.main.body) (fun s=>xlAt q11 [] s&&recOk (RowW.records Challenge.rw_uf010024_11.row.toRowW) s) true s)=some (openGood q11 []):=by
 intro w os
 kernel_rfl
end Mine.Internal
end
section
namespace Mine.Internal
open PySem PySem.W PySem.Calls PyProof.Rows
structure Sc where
 names:List (Str×NameKind)
 nm:List (String×Nat)
 size:Nat
noncomputable def Sc.var (S:Sc) (id:Str) (i:Nat):Bool:=
 S.nm.any (fun p=>decide (Str.ofString p.1=id)&&decide (S.nm.lookup p.1=some i)) &&
 (S.names.lookup id==some .local||S.names.lookup id==some .cell||S.names.lookup id==some .free) && !(id==("__debug__" : Str)) && !(id==("__classdict__" : Str))
noncomputable def Sc.own (S:Sc) (id:Str) (i:Nat):Bool:=
 S.nm.any (fun p=>decide (Str.ofString p.1=id)&&decide (S.nm.lookup p.1=some i))&&(S.names.lookup id==some .local||S.names.lookup id==some .cell)
noncomputable def Sc.glb (S:Sc) (id:Str) (x:String):Bool:=decide (id=Str.ofString x)&&S.names.lookup id==some .globalImplicit && !(id==("__debug__" : Str))
noncomputable def zkW:B1->String
 |.len => "len" |.list => "list" |.sorted => "sorted" |.int => "int" |.all => "all" |.any => "any" |.dict => "dict" |.other e=>e.elim
noncomputable def zoW:M0->String
 |.pop => "pop"
noncomputable def zoV:M1->String
 |.append => "append" |.remove => "remove" |.other e=>e.elim
noncomputable def zmG:Ty->String
 |.int => "int" |.bool => "bool" |.tuple => "tuple" |.list => "list" |.str => "str" |.cls c=>c
noncomputable def tyOk:Ty->Bool
 |.cls c=>decide (c ∈ "ValueError" :: "NetError" :: excNames)
 |_=>true
noncomputable def relN (out names:List (Str×NameKind)):List (Str×NameKind):=names.map fun (n,k)=>if k==.free&&out.lookup n==some .cell then (n,.cell) else (n,k)
noncomputable def zbZ (S:Sc) (bs:List (String×Nat)) (names:List (Str×NameKind)):Sc:=⟨relN S.names names,bs++S.nm,S.size⟩
noncomputable def zij (S:Sc) (bs:List (String×Nat)) (scope:Scope):Bool:=
 scope.kind==.function&&decide ((scope.names.map (·.1)).Nodup) &&
 scope.names.all (fun (n,k)=>match k with
  |.local=>decide (n=(".0" : Str))||bs.any fun p=>decide (Str.ofString p.1=n)
  |.free=>S.names.lookup n==some .cell||S.names.lookup n==some .free
  |.globalImplicit=>true
  |_=>false) &&
 (bs++S.nm).all (fun q=>decide (Str.ofString q.1≠(".0" : Str)))&&decide ((bs.map (·.1)).Nodup)&&decide ((bs.map (·.2)).Nodup)&&bs.all fun p=>scope.names.lookup (Str.ofString p.1)==some .local&&decide (p.2<S.size)&&S.nm.all fun q=>q.2 != p.2
noncomputable def nf1 {α:Type} (_:α):Bool:=false
noncomputable def nf2 {α β:Type} (_:α) (_:β):Bool:=false
noncomputable def nf3 {α β γ:Type} (_:α) (_:β) (_:γ):Bool:=false
noncomputable def nf4 {α β γ bI:Type} (_:α) (_:β) (_:γ) (_:bI):Bool:=false
theorem nt1 {α:Type} {P:α->Prop}:∀a,false=true->P a:=fun J h=>absurd h qan
theorem nt2 {α β:Type} {P:α->β->Prop}:∀a b,false=true->P a b:=fun J J h=>absurd h qan
theorem nt3 {α β γ:Type} {P:α->β->γ->Prop}:∀a b c,false=true->P a b c:=fun J J J h=>absurd h qan
theorem nt4 {α β γ bI:Type} {P:α->β->γ->bI->Prop}:∀a b c d,false=true->P a b c d:=fun J J J J h=>absurd h qan
noncomputable def eM (x:Expr) (k_c:Const->Bool) (k_nm:Str->Bool) (k_bi:Expr->Operator->Expr->Bool) (k_un:UnaryOp->Expr->Bool) (k_cp:Expr->(List CmpOp)->(List Expr)->Bool) (k_bo:BoolOp->(List Expr)->Bool) (k_ca:Expr->(List Expr)->(List Keyword)->Pos->Bool) (k_at:Expr->Str->Pos->Bool) (k_su:Expr->Expr->Bool) (k_sl:(Option Expr)->(Option Expr)->(Option Expr)->Bool) (k_li:(List Expr)->Bool) (k_tu:(List Expr)->Bool) (k_di:(List (Option Expr))->(List Expr)->Bool) (k_lc:Expr->(List Comprehension)->Scope->Bool):Bool:=match x with
 |.Constant c _ _=>k_c c
 |.Name id _=>k_nm id
 |.BinOp l op r _=>k_bi l op r
 |.UnaryOp op l _=>k_un op l
 |.Compare l ops rs _=>k_cp l ops rs
 |.BoolOp op xs _=>k_bo op xs
 |.Call f xs ks p=>k_ca f xs ks p
 |.Attribute y id p=>k_at y id p
 |.Subscript y z _=>k_su y z
 |.Slice l u st _=>k_sl l u st
 |.List xs _=>k_li xs
 |.Tuple xs _ _=>k_tu xs
 |.Dict ks vs _=>k_di ks vs
 |.ListComp y gs sc _=>k_lc y gs sc
 |_=>false
variable {P:Expr->Prop} {x:Expr}
theorem eME {k_c:Const->Bool} {k_nm:Str->Bool} {k_bi:Expr->Operator->Expr->Bool} {k_un:UnaryOp->Expr->Bool} {k_cp:Expr->(List CmpOp)->(List Expr)->Bool} {k_bo:BoolOp->(List Expr)->Bool} {k_ca:Expr->(List Expr)->(List Keyword)->Pos->Bool} {k_at:Expr->Str->Pos->Bool} {k_su:Expr->Expr->Bool} {k_sl:(Option Expr)->(Option Expr)->(Option Expr)->Bool} {k_li:(List Expr)->Bool} {k_tu:(List Expr)->Bool} {k_di:(List (Option Expr))->(List Expr)->Bool} {k_lc:Expr->(List Comprehension)->Scope->Bool} (h:eM x k_c k_nm k_bi k_un k_cp k_bo k_ca k_at k_su k_sl k_li k_tu k_di k_lc=true)
  (h_c:∀c kk p,k_c c=true->P (.Constant c kk p)) (h_nm:∀id p,k_nm id=true->P (.Name id p)) (h_bi:∀l op r p,k_bi l op r=true->P (.BinOp l op r p)) (h_un:∀op l p,k_un op l=true->P (.UnaryOp op l p)) (h_cp:∀l ops rs p,k_cp l ops rs=true->P (.Compare l ops rs p)) (h_bo:∀op xs p,k_bo op xs=true->P (.BoolOp op xs p)) (h_ca:∀f xs ks p,k_ca f xs ks p=true->P (.Call f xs ks p)) (h_at:∀y id p,k_at y id p=true->P (.Attribute y id p)) (h_su:∀y z p,k_su y z=true->P (.Subscript y z p)) (h_sl:∀l u st p,k_sl l u st=true->P (.Slice l u st p)) (h_li:∀xs p,k_li xs=true->P (.List xs p)) (h_tu:∀xs kk p,k_tu xs=true->P (.Tuple xs kk p)) (h_di:∀ks vs p,k_di ks vs=true->P (.Dict ks vs p)) (h_lc:∀y gs sc p,k_lc y gs sc=true->P (.ListComp y gs sc p)):P x:=by
 cases x<;>first |exact absurd h qan |exact h_c _ _ _ h |exact h_nm _ _ h |exact h_bi _ _ _ _ h |exact h_un _ _ _ h |exact h_cp _ _ _ _ h |exact h_bo _ _ _ h |exact h_ca _ _ _ _ h |exact h_at _ _ _ h |exact h_su _ _ _ h |exact h_sl _ _ _ _ h |exact h_li _ _ h |exact h_tu _ _ _ h |exact h_di _ _ _ h |exact h_lc _ _ _ _ h
noncomputable def cM (x:Expr) (k:Const->Bool):Bool:=eM x k nf1 nf3 nf2 nf3 nf2 nf4 nf3 nf2 nf3 nf1 nf1 nf2 nf3
@[elab_as_elim] theorem cME {k:Const->Bool} (h:cM x k=true) (g:∀c kk p,k c=true->P (.Constant c kk p)):P x:=
 eME h g nt2 nt4 nt3 nt4 nt3 nt4 nt3 nt3 nt4 nt2 nt3 nt3 nt4
noncomputable def nmM (x:Expr) (k:Str->Bool):Bool:=eM x nf1 k nf3 nf2 nf3 nf2 nf4 nf3 nf2 nf3 nf1 nf1 nf2 nf3
@[elab_as_elim] theorem nmME {k:Str->Bool} (h:nmM x k=true) (g:∀id p,k id=true->P (.Name id p)):P x:=
 eME h nt3 g nt4 nt3 nt4 nt3 nt4 nt3 nt3 nt4 nt2 nt3 nt3 nt4
noncomputable def biM (x:Expr) (k:Expr->Operator->Expr->Bool):Bool:=eM x nf1 nf1 k nf2 nf3 nf2 nf4 nf3 nf2 nf3 nf1 nf1 nf2 nf3
@[elab_as_elim] theorem biME {k:Expr->Operator->Expr->Bool} (h:biM x k=true) (g:∀l op r p,k l op r=true->P (.BinOp l op r p)):P x:=
 eME h nt3 nt2 g nt3 nt4 nt3 nt4 nt3 nt3 nt4 nt2 nt3 nt3 nt4
noncomputable def unM (x:Expr) (k:UnaryOp->Expr->Bool):Bool:=eM x nf1 nf1 nf3 k nf3 nf2 nf4 nf3 nf2 nf3 nf1 nf1 nf2 nf3
@[elab_as_elim] theorem unME {k:UnaryOp->Expr->Bool} (h:unM x k=true) (g:∀op l p,k op l=true->P (.UnaryOp op l p)):P x:=
 eME h nt3 nt2 nt4 g nt4 nt3 nt4 nt3 nt3 nt4 nt2 nt3 nt3 nt4
noncomputable def cpM (x:Expr) (k:Expr->(List CmpOp)->(List Expr)->Bool):Bool:=eM x nf1 nf1 nf3 nf2 k nf2 nf4 nf3 nf2 nf3 nf1 nf1 nf2 nf3
@[elab_as_elim] theorem cpME {k:Expr->(List CmpOp)->(List Expr)->Bool} (h:cpM x k=true) (g:∀l ops rs p,k l ops rs=true->P (.Compare l ops rs p)):P x:=
 eME h nt3 nt2 nt4 nt3 g nt3 nt4 nt3 nt3 nt4 nt2 nt3 nt3 nt4
noncomputable def boM (x:Expr) (k:BoolOp->(List Expr)->Bool):Bool:=eM x nf1 nf1 nf3 nf2 nf3 k nf4 nf3 nf2 nf3 nf1 nf1 nf2 nf3
@[elab_as_elim] theorem boME {k:BoolOp->(List Expr)->Bool} (h:boM x k=true) (g:∀op xs p,k op xs=true->P (.BoolOp op xs p)):P x:=
 eME h nt3 nt2 nt4 nt3 nt4 g nt4 nt3 nt3 nt4 nt2 nt3 nt3 nt4
noncomputable def caM (x:Expr) (k:Expr->(List Expr)->(List Keyword)->Pos->Bool):Bool:=eM x nf1 nf1 nf3 nf2 nf3 nf2 k nf3 nf2 nf3 nf1 nf1 nf2 nf3
@[elab_as_elim] theorem caME {k:Expr->(List Expr)->(List Keyword)->Pos->Bool} (h:caM x k=true) (g:∀f xs ks p,k f xs ks p=true->P (.Call f xs ks p)):P x:=
 eME h nt3 nt2 nt4 nt3 nt4 nt3 g nt3 nt3 nt4 nt2 nt3 nt3 nt4
noncomputable def atM (x:Expr) (k:Expr->Str->Pos->Bool):Bool:=eM x nf1 nf1 nf3 nf2 nf3 nf2 nf4 k nf2 nf3 nf1 nf1 nf2 nf3
@[elab_as_elim] theorem atME {k:Expr->Str->Pos->Bool} (h:atM x k=true) (g:∀y id p,k y id p=true->P (.Attribute y id p)):P x:=
 eME h nt3 nt2 nt4 nt3 nt4 nt3 nt4 g nt3 nt4 nt2 nt3 nt3 nt4
noncomputable def suM (x:Expr) (k:Expr->Expr->Bool):Bool:=eM x nf1 nf1 nf3 nf2 nf3 nf2 nf4 nf3 k nf3 nf1 nf1 nf2 nf3
@[elab_as_elim] theorem suME {k:Expr->Expr->Bool} (h:suM x k=true) (g:∀y z p,k y z=true->P (.Subscript y z p)):P x:=
 eME h nt3 nt2 nt4 nt3 nt4 nt3 nt4 nt3 g nt4 nt2 nt3 nt3 nt4
noncomputable def slM (x:Expr) (k:(Option Expr)->(Option Expr)->(Option Expr)->Bool):Bool:=eM x nf1 nf1 nf3 nf2 nf3 nf2 nf4 nf3 nf2 k nf1 nf1 nf2 nf3
@[elab_as_elim] theorem slME {k:(Option Expr)->(Option Expr)->(Option Expr)->Bool} (h:slM x k=true) (g:∀l u st p,k l u st=true->P (.Slice l u st p)):P x:=
 eME h nt3 nt2 nt4 nt3 nt4 nt3 nt4 nt3 nt3 g nt2 nt3 nt3 nt4
noncomputable def liM (x:Expr) (k:(List Expr)->Bool):Bool:=eM x nf1 nf1 nf3 nf2 nf3 nf2 nf4 nf3 nf2 nf3 k nf1 nf2 nf3
@[elab_as_elim] theorem liME {k:(List Expr)->Bool} (h:liM x k=true) (g:∀xs p,k xs=true->P (.List xs p)):P x:=
 eME h nt3 nt2 nt4 nt3 nt4 nt3 nt4 nt3 nt3 nt4 g nt3 nt3 nt4
noncomputable def tuM (x:Expr) (k:(List Expr)->Bool):Bool:=eM x nf1 nf1 nf3 nf2 nf3 nf2 nf4 nf3 nf2 nf3 nf1 k nf2 nf3
@[elab_as_elim] theorem tuME {k:(List Expr)->Bool} (h:tuM x k=true) (g:∀xs kk p,k xs=true->P (.Tuple xs kk p)):P x:=
 eME h nt3 nt2 nt4 nt3 nt4 nt3 nt4 nt3 nt3 nt4 nt2 g nt3 nt4
noncomputable def diM (x:Expr) (k:(List (Option Expr))->(List Expr)->Bool):Bool:=eM x nf1 nf1 nf3 nf2 nf3 nf2 nf4 nf3 nf2 nf3 nf1 nf1 k nf3
@[elab_as_elim] theorem diME {k:(List (Option Expr))->(List Expr)->Bool} (h:diM x k=true) (g:∀ks vs p,k ks vs=true->P (.Dict ks vs p)):P x:=
 eME h nt3 nt2 nt4 nt3 nt4 nt3 nt4 nt3 nt3 nt4 nt2 nt3 g nt4
noncomputable def lcM (x:Expr) (k:Expr->(List Comprehension)->Scope->Bool):Bool:=eM x nf1 nf1 nf3 nf2 nf3 nf2 nf4 nf3 nf2 nf3 nf1 nf1 nf2 k
@[elab_as_elim] theorem lcME {k:Expr->(List Comprehension)->Scope->Bool} (h:lcM x k=true) (g:∀y gs sc p,k y gs sc=true->P (.ListComp y gs sc p)):P x:=
 eME h nt3 nt2 nt4 nt3 nt4 nt3 nt4 nt3 nt3 nt4 nt2 nt3 nt3 g
noncomputable def sM (x:Stmt) (k_sx:Expr->Bool) (k_sas:(List Expr)->Expr->Bool) (k_sre:(Option Expr)->Bool) (k_spa:Bool) (k_sra:(Option Expr)->(Option Expr)->Bool) (k_sif:Expr->(List Stmt)->(List Stmt)->Bool) (k_swh:Expr->(List Stmt)->(List Stmt)->Bool) (k_sfo:Expr->Expr->(List Stmt)->(List Stmt)->Bool) (k_str:(List Stmt)->(List ExceptHandler)->(List Stmt)->(List Stmt)->Bool):Bool:=match x with
 |.Expr e _=>k_sx e
 |.Assign ts e _=>k_sas ts e
 |.Return e _=>k_sre e
 |.Pass _=>k_spa
 |.Raise e c _=>k_sra e c
 |.If e b o _=>k_sif e b o
 |.While e b o _=>k_swh e b o
 |.For t e b o _=>k_sfo t e b o
 |.Try b hs o f _=>k_str b hs o f
 |_=>false
theorem sME {P:Stmt->Prop} {x:Stmt} {k_sx:Expr->Bool} {k_sas:(List Expr)->Expr->Bool} {k_sre:(Option Expr)->Bool} {k_spa:Bool} {k_sra:(Option Expr)->(Option Expr)->Bool} {k_sif:Expr->(List Stmt)->(List Stmt)->Bool} {k_swh:Expr->(List Stmt)->(List Stmt)->Bool} {k_sfo:Expr->Expr->(List Stmt)->(List Stmt)->Bool} {k_str:(List Stmt)->(List ExceptHandler)->(List Stmt)->(List Stmt)->Bool} (h:sM x k_sx k_sas k_sre k_spa k_sra k_sif k_swh k_sfo k_str=true)
  (h_sx:∀e p,k_sx e=true->P (.Expr e p)) (h_sas:∀ts e p,k_sas ts e=true->P (.Assign ts e p)) (h_sre:∀e p,k_sre e=true->P (.Return e p)) (h_spa:∀p,k_spa=true->P (.Pass p)) (h_sra:∀e c p,k_sra e c=true->P (.Raise e c p)) (h_sif:∀e b o p,k_sif e b o=true->P (.If e b o p)) (h_swh:∀e b o p,k_swh e b o=true->P (.While e b o p)) (h_sfo:∀t e b o p,k_sfo t e b o=true->P (.For t e b o p)) (h_str:∀b hs o f p,k_str b hs o f=true->P (.Try b hs o f p)):P x:=by
 cases x<;>first |exact absurd h qan |exact h_sx _ _ h |exact h_sas _ _ _ h |exact h_sre _ _ h |exact h_spa _ h |exact h_sra _ _ _ h |exact h_sif _ _ _ _ h |exact h_swh _ _ _ _ h |exact h_sfo _ _ _ _ _ h |exact h_str _ _ _ _ _ h
noncomputable def sxM (x:Stmt) (k:Expr->Bool):Bool:=sM x k nf2 nf1 false nf2 nf3 nf3 nf4 nf4
@[elab_as_elim] theorem sxME {P:Stmt->Prop} {x:Stmt} {k:Expr->Bool} (h:sxM x k=true) (g:∀e p,k e=true->P (.Expr e p)):P x:=
 sME h g nt3 nt2 nt1 nt3 nt4 nt4 (fun J J J J J h=>absurd h qan) (fun J J J J J h=>absurd h qan)
noncomputable def sasM (x:Stmt) (k:(List Expr)->Expr->Bool):Bool:=sM x nf1 k nf1 false nf2 nf3 nf3 nf4 nf4
@[elab_as_elim] theorem znm {P:Stmt->Prop} {x:Stmt} {k:(List Expr)->Expr->Bool} (h:sasM x k=true) (g:∀ts e p,k ts e=true->P (.Assign ts e p)):P x:=
 sME h nt2 g nt2 nt1 nt3 nt4 nt4 (fun J J J J J h=>absurd h qan) (fun J J J J J h=>absurd h qan)
noncomputable def sreM (x:Stmt) (k:(Option Expr)->Bool):Bool:=sM x nf1 nf2 k false nf2 nf3 nf3 nf4 nf4
@[elab_as_elim] theorem zpH {P:Stmt->Prop} {x:Stmt} {k:(Option Expr)->Bool} (h:sreM x k=true) (g:∀e p,k e=true->P (.Return e p)):P x:=
 sME h nt2 nt3 g nt1 nt3 nt4 nt4 (fun J J J J J h=>absurd h qan) (fun J J J J J h=>absurd h qan)
noncomputable def sraM (x:Stmt) (k:(Option Expr)->(Option Expr)->Bool):Bool:=sM x nf1 nf2 nf1 false k nf3 nf3 nf4 nf4
@[elab_as_elim] theorem zpI {P:Stmt->Prop} {x:Stmt} {k:(Option Expr)->(Option Expr)->Bool} (h:sraM x k=true) (g:∀e c p,k e c=true->P (.Raise e c p)):P x:=
 sME h nt2 nt3 nt2 nt1 g nt4 nt4 (fun J J J J J h=>absurd h qan) (fun J J J J J h=>absurd h qan)
noncomputable def sifM (x:Stmt) (k:Expr->(List Stmt)->(List Stmt)->Bool):Bool:=sM x nf1 nf2 nf1 false nf2 k nf3 nf4 nf4
@[elab_as_elim] theorem zpJ {P:Stmt->Prop} {x:Stmt} {k:Expr->(List Stmt)->(List Stmt)->Bool} (h:sifM x k=true) (g:∀e b o p,k e b o=true->P (.If e b o p)):P x:=
 sME h nt2 nt3 nt2 nt1 nt3 g nt4 (fun J J J J J h=>absurd h qan) (fun J J J J J h=>absurd h qan)
noncomputable def swhM (x:Stmt) (k:Expr->(List Stmt)->(List Stmt)->Bool):Bool:=sM x nf1 nf2 nf1 false nf2 nf3 k nf4 nf4
@[elab_as_elim] theorem zpF {P:Stmt->Prop} {x:Stmt} {k:Expr->(List Stmt)->(List Stmt)->Bool} (h:swhM x k=true) (g:∀e b o p,k e b o=true->P (.While e b o p)):P x:=
 sME h nt2 nt3 nt2 nt1 nt3 nt4 g (fun J J J J J h=>absurd h qan) (fun J J J J J h=>absurd h qan)
noncomputable def sfoM (x:Stmt) (k:Expr->Expr->(List Stmt)->(List Stmt)->Bool):Bool:=sM x nf1 nf2 nf1 false nf2 nf3 nf3 k nf4
@[elab_as_elim] theorem zpK {P:Stmt->Prop} {x:Stmt} {k:Expr->Expr->(List Stmt)->(List Stmt)->Bool} (h:sfoM x k=true) (g:∀t e b o p,k t e b o=true->P (.For t e b o p)):P x:=
 sME h nt2 nt3 nt2 nt1 nt3 nt4 nt4 g (fun J J J J J h=>absurd h qan)
noncomputable def strM (x:Stmt) (k:(List Stmt)->(List ExceptHandler)->(List Stmt)->(List Stmt)->Bool):Bool:=sM x nf1 nf2 nf1 false nf2 nf3 nf3 nf4 k
@[elab_as_elim] theorem zpG {P:Stmt->Prop} {x:Stmt} {k:(List Stmt)->(List ExceptHandler)->(List Stmt)->(List Stmt)->Bool} (h:strM x k=true) (g:∀b hs o f p,k b hs o f=true->P (.Try b hs o f p)):P x:=
 sME h nt2 nt3 nt2 nt1 nt3 nt4 nt4 (fun J J J J J h=>absurd h qan) g
noncomputable def l0 {α:Type} (xs:List α) (b:Bool):Bool:=match xs with | []=>b |_=>false
@[elab_as_elim] theorem l0E {α:Type} {P:List α->Prop} {xs:List α} {b:Bool} (h:l0 xs b=true) (g:b=true->P []):P xs:=by
 cases xs with
 |nil=>exact g h
 |cons _ _=>exact absurd h qan
noncomputable def lc {α:Type} (xs:List α) (k:α->List α->Bool):Bool:=match xs with |x::r=>k x r |_=>false
@[elab_as_elim] theorem lcE {α:Type} {P:List α->Prop} {xs:List α} {k:α->List α->Bool} (h:lc xs k=true) (g:∀x r,k x r=true->P (x::r)):P xs:=by
 cases xs with
 |nil=>exact absurd h qan
 |cons _ _=>exact g _ _ h
noncomputable def l1 {α:Type} (xs:List α) (k:α->Bool):Bool:=lc xs fun x r=>l0 r (k x)
@[elab_as_elim] theorem l1E {α:Type} {P:List α->Prop} {xs:List α} {k:α->Bool} (h:l1 xs k=true) (g:∀x,k x=true->P [x]):P xs:=
 lcE h fun J J h=>l0E h fun h=>g _ h
noncomputable def l2 {α:Type} (xs:List α) (k:α->α->Bool):Bool:=lc xs fun x r=>l1 r (k x)
@[elab_as_elim] theorem l2E {α:Type} {P:List α->Prop} {xs:List α} {k:α->α->Bool} (h:l2 xs k=true) (g:∀x y,k x y=true->P [x,y]):P xs:=
 lcE h fun J J h=>l1E h fun J h=>g _ _ h
noncomputable def l3 {α:Type} (xs:List α) (k:α->α->α->Bool):Bool:=lc xs fun x r=>l2 r (k x)
@[elab_as_elim] theorem l3E {α:Type} {P:List α->Prop} {xs:List α} {k:α->α->α->Bool} (h:l3 xs k=true) (g:∀x y z,k x y z=true->P [x,y,z]):P xs:=
 lcE h fun J J h=>l2E h fun J J h=>g _ _ _ h
noncomputable def o0 {α:Type} (o:Option α) (b:Bool):Bool:=match o with |none=>b |_=>false
@[elab_as_elim] theorem o0E {α:Type} {P:Option α->Prop} {o:Option α} {b:Bool} (h:o0 o b=true) (g:b=true->P none):P o:=by
 cases o with
 |none=>exact g h
 |some _=>exact absurd h qan
noncomputable def o1 {α:Type} (o:Option α) (k:α->Bool):Bool:=match o with |some x=>k x |_=>false
@[elab_as_elim] theorem o1E {α:Type} {P:Option α->Prop} {o:Option α} {k:α->Bool} (h:o1 o k=true) (g:∀x,k x=true->P (some x)):P o:=by
 cases o with
 |none=>exact absurd h qan
 |some _=>exact g _ h
noncomputable def ncM (x:Expr) (k:Str->List Expr->Bool):Bool:=caM x fun f xs ks J=>nmM f fun id=>l0 ks (k id xs)
@[elab_as_elim] theorem ncME {k:Str->List Expr->Bool} (h:ncM x k=true) (g:∀id np xs p,k id xs=true->P (.Call (.Name id np) xs [] p)):P x:=
 caME h fun J J J J h=>nmME h fun J J h=>l0E h fun h=>g _ _ _ _ h
noncomputable def acM (x:Expr) (k:Expr->Str->Pos->List Expr->Pos->Bool):Bool:=caM x fun f xs ks p=>atM f fun y id q=>l0 ks (k y id q xs p)
@[elab_as_elim] theorem acME {k:Expr->Str->Pos->List Expr->Pos->Bool} (h:acM x k=true) (g:∀y id q xs p,k y id q xs p=true->P (.Call (.Attribute y id q) xs [] p)):P x:=
 caME h fun J J J J h=>atME h fun J J J h=>l0E h fun h=>g _ _ _ _ _ h
noncomputable def cp1M (x:Expr) (k:Expr->CmpOp->Expr->Bool):Bool:=cpM x fun l ops rs=>l1 ops fun op=>l1 rs fun r=>k l op r
@[elab_as_elim] theorem zpp {k:Expr->CmpOp->Expr->Bool} (h:cp1M x k=true) (g:∀l op r p,k l op r=true->P (.Compare l [op] [r] p)):P x:=
 cpME h fun J J J J h=>l1E h fun J h=>l1E h fun J h=>g _ _ _ _ h
noncomputable def cp2M (x:Expr) (k:Expr->CmpOp->CmpOp->Expr->Expr->Bool):Bool:=cpM x fun l ops rs=>l2 ops fun o₁ o₂=>l2 rs fun m r=>k l o₁ o₂ m r
@[elab_as_elim] theorem zpo {k:Expr->CmpOp->CmpOp->Expr->Expr->Bool} (h:cp2M x k=true) (g:∀l o₁ o₂ m r p,k l o₁ o₂ m r=true->P (.Compare l [o₁,o₂] [m,r] p)):P x:=
 cpME h fun J J J J h=>l2E h fun J J h=>l2E h fun J J h=>g _ _ _ _ _ _ h
noncomputable def sl0M (x:Expr) (k:Expr->Option Expr->Option Expr->Bool):Bool:=suM x fun y z=>slM z fun l u st=>o0 st (k y l u)
@[elab_as_elim] theorem zoL {k:Expr->Option Expr->Option Expr->Bool} (h:sl0M x k=true) (g:∀y l u q p,k y l u=true->P (.Subscript y (.Slice l u none q) p)):P x:=
 suME h fun J J J h=>slME h fun J J J J h=>o0E h fun h=>g _ _ _ _ _ h
noncomputable def zcl (x:Expr):Bool := !(ncM x fun J xs=>xs.isEmpty)
noncomputable def zo9:Const->Bool
 |.str _=>true
 |_=>false
noncomputable def exM (h:ExceptHandler) (k:Str->Str->List Stmt->Bool):Bool:=match h with
 |.ExceptHandler t n b _=>o1 t fun e=>nmM e fun id=>o1 n fun n=>k id n b
@[elab_as_elim] theorem exME {P:ExceptHandler->Prop} {h:ExceptHandler} {k:Str->Str->List Stmt->Bool} (hh:exM h k=true) (g:∀id np n b p,k id n b=true->P (.ExceptHandler (some (.Name id np)) (some n) b p)):P h:=by
 cases h with
 |ExceptHandler t n b p=>
  have hh:(o1 t fun e=>nmM e fun id=>o1 n fun n=>k id n b)=true:=hh;refine o1E hh ?_;intro e hh;refine nmME hh ?_;intro id np hh;refine o1E hh ?_;intro m hh;exact g _ _ _ _ _ hh
noncomputable def tgOf:Tg->List Nat
 |.one x=>[x]
 |.many xs=>xs
noncomputable def zfb (S:Sc):List Nat->List Expr->Bool
 | [],xs=>xs.isEmpty
 |i::is,xs=>lc xs fun x r=>nmM x fun id=>S.own id i&&zfb S is r
noncomputable def zd5 (S:Sc):Tg->Expr->Bool
 |.one i,x=>nmM x fun id=>S.own id i
 |.many is,x=>tuM x fun xs=>zfb S is xs&&decide is.Nodup
noncomputable def zoB:Tg->Bool
 |.one _=>true
 |.many _=>false
mutual
noncomputable def zal (S:Sc):Ex->Expr->Bool
 |.none,x=>cM x fun c=>decide (c=.none)
 |.tt,x=>cM x fun c=>decide (c=.bool true)
 |.ff,x=>cM x fun c=>decide (c=.bool false)
 |.int i,x=>cM x fun c=>decide (c=.int i)
 |.str t,x=>cM x fun c=>decide (c=.str (Str.ofString t))
 |.var i,x=>nmM x fun id=>S.var id i
 |.glob g,x=>nmM x fun id=>S.glb id g
 |.bin op a b,x=>biM x fun l op' r=>decide (op'=op)&&zal S a l&&zal S b r
 |.neg a,x=>unM x fun op l=>decide (op=.USub)&&zal S a l
 |.not a,x=>unM x fun op l=>decide (op=.Not)&&zal S a l
 |.cmp op a b,x=>cp1M x fun l op' r=>decide (op'=op)&&zal S a l&&zal S b r
 |.cmp2 o₁ o₂ a b c,x=>cp2M x fun l bF bD m r=>decide (bF=o₁)&&decide (bD=o₂)&&zal S a l&&zal S b m&&zal S c r
 |.bool isAnd es,x=>boM x fun op xs=>decide (op=if isAnd then .And else .Or)&&zaR S es xs
 |.call f es,x=>ncM x fun id xs=>S.glb id f&&zaR S es xs
 |.make c es,x=>ncM x fun id xs=>decide (c ≠ "")&&S.glb id c&&zaR S es xs
 |.meth o name es,x=>acM x fun y id apos xs pos=>decide (id=Str.ofString name)&&(apos.endLine==pos.line)&&zcl y&&decide (xs.length<30)&&zal S o y&&zaR S es xs
 |.m0 o m,x=>acM x fun y id apos xs pos=>l0 xs (decide (id=Str.ofString (zoW m))&&(apos.endLine==pos.line)&&zcl y&&zal S o y)
 |.m1 o m a,x=>acM x fun y id apos xs pos=>l1 xs fun z=>decide (id=Str.ofString (zoV m))&&(apos.endLine==pos.line)&&zcl y&&zal S o y&&zal S a z
 |.attr o name,x=>atM x fun y id J=>decide (id=Str.ofString name)&&zcl y&&zal S o y
 |.idx o i,x=>suM x fun y z=>zal S o y&&zal S i z
 |.slice o lo hi,x=>sl0M x fun y l h=>zal S o y&&zd6 S lo l&&zd6 S hi h
 |.list es,x=>liM x fun xs=>zaR S es xs
 |.tuple es,x=>tuM x fun xs=>zaR S es xs
 |.dict0,x=>diM x fun ks vs=>l0 ks (l0 vs true)
 |.dict1 i,x=>diM x fun ks vs=>l1 ks fun o=>o1 o fun y=>l1 vs fun z=>(nmM y fun id=>S.var id i)&&(cM z fun c=>decide (c=.bool true))
 |.comp bs elt t it cond,x=>lcM x fun y gs scope=>l1 gs fun g=>zij S bs scope&&zd5 (zbZ S bs scope.names) t g.target&&decide (tgOf t=bs.map (·.2))&&zal S it g.iter&&zal (zbZ S bs scope.names) elt y&&zc8 (zbZ S bs scope.names) cond g.ifs&&decide (g.is_async=0)
 |.b1 f e,x=>ncM x fun id xs=>l1 xs fun y=>S.glb id (zkW f)&&zal S e y
 |.min2 a b,x=>ncM x fun id xs=>l2 xs fun y z=>S.glb id "min" && zal S a y&&zal S b z
 |.max2 a b,x=>ncM x fun id xs=>l2 xs fun y z=>S.glb id "max" && zal S a y&&zal S b z
 |.isin e t,x=>ncM x fun id xs=>l2 xs fun y z=>nmM z fun id'=>tyOk t&&S.glb id "isinstance" && S.glb id' (zmG t)&&zal S e y
 |.sset e,x=>ncM x fun id xs=>l1 xs fun y=>S.glb id "sorted" && (ncM y fun id2 ys=>l1 ys fun z=>S.glb id2 "set" && zal S e z)
 |.range1 a,x=>ncM x fun id xs=>l1 xs fun y=>S.glb id "range" && zal S a y
 |.range2 _ _,_=>false
 |.range3 a b c,x=>ncM x fun id xs=>l3 xs fun y z w=>S.glb id "range" && zal S a y&&zal S b z&&zal S c w
noncomputable def zaR (S:Sc):Exs->List Expr->Bool
 |.nil,xs=>l0 xs true
 |.cons e es,xs=>lc xs fun x r=>zal S e x&&zaR S es r
noncomputable def zd6 (S:Sc):ExO->Option Expr->Bool
 |.none,o=>o0 o true
 |.some e,o=>o1 o fun x=>zal S e x
noncomputable def zc8 (S:Sc):ExO->List Expr->Bool
 |.none,xs=>l0 xs true
 |.some e,xs=>l1 xs fun x=>zal S e x
end
variable {S:Sc}
theorem za8:zaR S .nil []=true:=rfl
theorem za9 {xs:List Expr}:zaR S .nil (x::xs)=false:=rfl
variable {e:Ex}
theorem zba {es:Exs}:zaR S (.cons e es) []=false:=rfl
theorem zbb {es:Exs} {xs:List Expr}:zaR S (.cons e es) (x::xs)=(zal S e x&&zaR S es xs):=rfl
theorem znB:zd6 S .none none=true:=rfl
theorem znA:zd6 S .none (some x)=false:=rfl
theorem znz:zd6 S (.some e) none=false:=rfl
theorem zny:zd6 S (.some e) (some x)=zal S e x:=rfl
theorem zlV:zc8 S .none []=true:=rfl
theorem zlW {xs:List Expr}:zc8 S .none (x::xs)=false:=rfl
theorem zlS:zc8 S (.some e) []=false:=rfl
theorem zlU:zc8 S (.some e) [x]=zal S e x:=rfl
theorem zlT {y:Expr} {r:List Expr}:zc8 S (.some e) (x::y::r)=false:=rfl
theorem zi2 {v:Expr} {p:Pos}:zal S e (.Starred v p)=false:=by cases e<;>rfl
theorem zf7 {v:List Expr} {k:Nat} {p:Pos}:zal S e (.Set v k p)=false:=by cases e<;>rfl
variable {env:Env}
theorem zbf {rest:List Expr} (h:zal S e x=true):starEach (x::rest) env=(false,eval x env)::starEach rest env:=by
 cases x<;>first |rfl |(rw [zi2] at h;cases h)
theorem zgk (h:zal S e x=true) (v:Value):foldedSetIterable x env v=pure v:=by
 cases x<;>first |rfl |(rw [zf7] at h;cases h)
theorem zdH {op:CmpOp} (h:zal S e x=true):behindInMarks op x=false:=by
 cases x<;>first |rfl |(rw [zf7] at h;cases h)
theorem zfx {name:Str} (h:zcl x=true) (t:Sem Value):attributeBase x name env t=t:=by
 cases x with
 |Call f xs ks p=>cases f with
  |Name _ _=>cases xs with
   |nil=>cases ks with
    |nil=>exact Bool.noConfusion h
    |cons _ _=>rfl
   |cons _ _=>rfl
  |_=>rfl
 |_=>rfl
noncomputable def zh5:Ex->Bool
 |.comp .. => true
 |_=>false
noncomputable def zo8 (x:PySem.Expr):Bool:=tuM x fun J=>true
noncomputable def znv (x:PySem.Expr):Bool := !(x.ctorIdx==8||x.ctorIdx==9||x.ctorIdx==10)
mutual
noncomputable def zmN (S:Sc):St->Stmt->Bool
 |.expr e,s=>sxM s fun x=>zal S e x&&znv x
 |.assign t e,s=>sasM s fun ts x=>l1 ts fun tg=>zd5 S t tg&&zal S e x&&(zoB t||(!zo8 x && !zh5 e))&&(zh5 e||znv x)
 |.setattr o name e,s=>sasM s fun ts z=>l1 ts fun tg=>atM tg fun y id J=>decide (id=Str.ofString name)&&zal S o y&&zal S e z
 |.setitem o i e,s=>sasM s fun ts z=>l1 ts fun tg=>suM tg fun y w=>zal S o y&&zal S i w&&zal S e z
 |.ret e,s=>sreM s fun o=>o1 o fun x=>zal S e x
 |.raise c _,s=>sraM s fun o c'=>o0 c' (o1 o fun x=>ncM x fun id xs=>l1 xs fun y=>cM y fun k=>zo9 k&&S.glb id c)
 |.iff c th el,s=>sifM s fun x b o=>zal S c x&&zbL S th b&&zbL S el o
 |.whil c body,s=>swhM s fun x b o=>l0 o (zal S c x&&zbL S body b)
 |.for t it body,s=>sfoM s fun tg x b o=>l0 o (zd5 S t tg&&zal S it x&&zbL S body b)
 |.tryx body hs,s=>strM s fun b hs' o f=>l0 o (l0 f (zbL S body b&&zg9 S hs hs' && !hs'.isEmpty))
noncomputable def zbL (S:Sc):Sts->List Stmt->Bool
 |.nil,xs=>l0 xs true
 |.cons s r,xs=>lc xs fun x xs=>zmN S s x&&zbL S r xs
noncomputable def zg9 (S:Sc):Hs->List ExceptHandler->Bool
 |.nil,xs=>l0 xs true
 |.cons C x body r,xs=>lc xs fun h xs=>exM h fun id n bd=>lc bd fun b bs=>decide (C∈excNames)&&S.glb id C&&S.own n x&&(S.names.lookup n==some .local)&&zbL S body (b::bs)&&zg9 S r xs
end
noncomputable def bNames:List (String×Value):=[("len",.builtin "len"),("list",.type "list"),("sorted",.builtin "sorted"),("int",.type "int"),("all",.builtin "all"),("any",.builtin "any"),("tuple",.type "tuple"),("dict",.type "dict"),
 ("set",.type "set"),("max",.builtin "max"),("min",.builtin "min"),("isinstance",.builtin "isinstance"),("range",.type "range"),("enumerate",.type "enumerate"),("bool",.type "bool"),("str",.type "str"),("ValueError",.type "ValueError")]
noncomputable def scOf (F:Fn) (names:List (Str×NameKind)):Sc:=⟨names,F.names.zipIdx,F.size⟩
noncomputable def ze6 (fd:FuncData) (ps:List String):Bool:=fd.params.posonlyargs.isEmpty&&(fd.params.args.map (·.arg)==ps.map Str.ofString)&&fd.params.vararg.isNone&&fd.params.kwonlyargs.isEmpty&&fd.params.kwarg.isNone&&(match fd.defaults with |.none=>true |_=>false)&&decide ((ps.map Str.ofString).Nodup)
structure Tabs where
 cls:List (String×Addr)
 fn:List ((String×String)×Addr)
 fld:List (String×String)
noncomputable def isFd (K:Frag) (a:Addr):Bool:=match K.lookup a with |some ⟨_,_,.func _,_⟩=>true |_=>false
noncomputable def fdOf (K:Frag) (a:Addr):FuncData:=match K.lookup a with |some ⟨_,_,.func fd,_⟩=>fd |_=>default
noncomputable def zeY (K:Frag) (Cl:Addr):Bool:=plainGet K Cl ("x" : Str)&&findIn K (.ref Cl) "__setattr__" == some (some (.builtin "object.__setattr__"))&&plainOver K Cl&&hasDictIn K Cl
noncomputable def excB (K:Frag) (Cl:Addr):Bool:=findIn K (.ref Cl) "__getattribute__" == some (some (.builtin "BaseException.__getattribute__"))&&findIn K (.ref Cl) "__getattr__" == some none &&
 (match findObj K Cl none "__class__" with |some (.bind g a)=>g==.builtin "getset_descriptor.__get__" && a==.builtin "object.__class__" |_=>false)&&mroIn K Cl (.type "BaseException")==some true&&mroIn K Cl (.type "object")==some true&&(clsIn K Cl).isSome &&
 instIn K (.ref Cl) (.type "tuple")==some false&&excIn K Cl [.type "ValueError",.type "Exception",.type "BaseException",.type "object"] "ValueError.__new__"
noncomputable def zok (T:Tabs) (D:String):Option Value:=if D = "ValueError" then some (.type "ValueError") else (T.cls.lookup D).map .ref
noncomputable def zc2 (K:Frag) (T:Tabs):Bool:=
 bNames.all (fun p=>nsIn K mainGlobals (Str.ofString p.1)==some none) &&
 ((nsIn K mainGlobals "MOST_PLACES").any fun o=>o.any (Value.isInt 40)) &&
 T.cls.all (fun p=>p.1 != "" && nsIn K mainGlobals (Str.ofString p.1)==some (some (.ref p.2))) &&
 T.fn.all (fun p=>isFd K p.2&&if p.1.1 == "" then nsIn K mainGlobals (Str.ofString p.1.2)==some (some (.ref p.2)) else match T.cls.lookup p.1.1 with
  |some Cl=>zeY K Cl&&findIn K (.ref Cl) (Str.ofString p.1.2)==some (some (.ref p.2))&&isFn K (.ref p.2)&&typeIn K (.ref p.2)==some (.type "function")&&(p.1.2 != "__init__" || (keepIn K (.ref Cl)&&makesIn K Cl))
  |none=>false) &&
 T.fld.all (fun p=>match T.cls.lookup p.1 with |some Cl=>zeY K Cl&&findIn K (.ref Cl) (Str.ofString p.2)==some none |none=>false) &&
 excNames.all (fun c=>match T.cls.lookup c with
  |some Cl=>excB K Cl&&excNames.all (fun D=>match T.cls.lookup D with |some Dl=>subIn K (.ref Cl) (.ref Dl)==some (decide (c=D)) |none=>false) &&
    ("ValueError" :: "NetError" :: excNames).all (fun D=>match zok T D with |some v=>kitOne K (.ref Cl) v==some (zdc c D) |none=>false)
  |none=>false)
noncomputable def zhp (K:Frag) (a:Addr) (F:Fn):Bool:=match fdOf K a with
 |fd=>match fd.body with
  |.stmts body=>isFd K a&&fd.globals==mainGlobals&&fd.builtins==builtinsNs&&fd.closure.isEmpty&&fd.scope.kind==.function && !fd.scope.isCoroutine && !fd.scope.isGenerator&&codeIn K fd.code fd.qualname &&
    zbL (scOf F fd.scope.names) F.body body&&F.params.all (fun x=>fd.scope.names.lookup (Str.ofString x)==some .local||fd.scope.names.lookup (Str.ofString x)==some .cell)&&fd.scope.names.all (fun p=>p.2 != .free) &&
    decide F.names.Nodup&&decide (F.names.length<=F.size)&&decide (F.params <+: F.names)
  |_=>false
noncomputable def zdB (h:Heap) (k:Frag->Bool):List Addr->Frag->Bool
 | [],acc=>k acc
 |a::as,acc=>match h.get? a with
  |some o=>zdB h k as ((a,o)::acc)
  |none=>zdB h k as acc
noncomputable def zia (T:Tabs) (fns:List ((String×String)×Fn)) (K:Frag):Bool:=fns.all fun p=>match T.fn.lookup p.1 with
 |some a=>zhp K a p.2&&ze6 (fdOf K a) p.2.params
 |none=>false
noncomputable def zfA (T:Tabs) (fns:List ((String×String)×Fn)) (law:Addr) (K:Frag):Bool:=zc2 K T&&zia T fns K&&(nsIn K mainGlobals (Str.ofString "law")==some (some (.ref law)))
noncomputable def obsK (T:Tabs) (fns:List ((String×String)×Fn)) (law:Addr) (n:Nat) (s:Shared):Bool:=zdB s.heap (zfA T fns law) (List.range n) []
end Mine.Internal
end
section
namespace Mine.Internal
open PySem
noncomputable def zds:Fn:=⟨["thing", "size"],["thing", "size"],2,
 .cons (.ret (.bool true (.cons (.isin (.var 0) .int) (.cons (.not (.isin (.var 0) .bool)) (.cons (.cmp2 .LtE .Lt (.int 0) (.var 0) (.var 1)) .nil))))) (
 .nil)⟩
noncomputable def zir:Fn:=⟨["thing", "size"],["thing", "size"],2,
 .cons (.iff (.bool false (.cons (.not (.isin (.var 0) .tuple)) (.cons (.cmp .NotEq (.b1 .len (.var 0)) (.int 2)) .nil))) (.cons (.ret (.ff)) (
  .nil)) (.nil)) (
 .cons (.ret (.bool true (.cons (.call "is_place" (.cons (.idx (.var 0) (.int 0)) (.cons (.var 1) .nil))) (.cons (.call "is_place" (.cons (.idx (.var 0) (.int 1)) (.cons (.var 1) .nil))) (.cons (.cmp .Lt (.idx (.var 0) (.int 0)) (.idx (.var 0) (.int 1))) .nil))))) (
 .nil))⟩
noncomputable def T_Net_init_1:Sts:=.cons (.setitem (.var 3) (.var 4) (.tt)) (
 .cons (.expr (.m1 (.idx (.attr (.var 0) "rows") (.idx (.var 4) (.int 0))) .append (.idx (.var 4) (.int 1)))) (
 .cons (.expr (.m1 (.idx (.attr (.var 0) "rows") (.idx (.var 4) (.int 1))) .append (.idx (.var 4) (.int 0)))) (
 .nil)))
noncomputable def L_Net_init_1:Sts:=.cons (.iff (.bool false (.cons (.not (.call "is_tie" (.cons (.var 4) (.cons (.var 1) .nil)))) (.cons (.cmp .In (.var 4) (.var 3)) .nil))) (.cons (.raise "BadNet" "no tie, or one that is told twice") (
  .nil)) (.nil)) (
 T_Net_init_1)
noncomputable def T_Net_init_2:Sts:=.cons (.setattr (.var 0) "rows" (.comp [("row",6)] (.b1 .sorted (.var 6)) (.one 6) (.attr (.var 0) "rows") .none)) (
 .nil)
noncomputable def T_Net_init_3:Sts:=.cons (.assign (.one 3) (.dict0)) (
 .cons (.for (.one 4) (.var 2) (L_Net_init_1)) (
 T_Net_init_2))
noncomputable def T_Net_init_4:Sts:=.cons (.setattr (.var 0) "size" (.var 1)) (
 .cons (.setattr (.var 0) "rows" (.comp [("place",5)] (.list (.nil)) (.one 5) (.range1 (.var 1)) .none)) (
 T_Net_init_3))
noncomputable def zb1:Fn:=⟨["self", "size", "ties"],["self", "size", "ties", "seen", "tie"],7,
 .cons (.iff (.bool false (.cons (.not (.call "is_place" (.cons (.var 1) (.cons (.bin .Add (.glob "MOST_PLACES") (.int 1)) .nil)))) (.cons (.cmp .Lt (.var 1) (.int 1)) (.cons (.not (.isin (.var 2) .list)) .nil)))) (.cons (.raise "BadNet" "no net") (
  .nil)) (.nil)) (
 T_Net_init_4)⟩
noncomputable def L_Net_ties_1:Sts:=.cons (.iff (.cmp .Lt (.var 2) (.var 3)) (.cons (.expr (.m1 (.var 1) .append (.tuple (.cons (.var 2) (.cons (.var 3) .nil))))) (
  .nil)) (.nil)) (
 .nil)
noncomputable def L_Net_ties_2:Sts:=.cons (.for (.one 3) (.idx (.attr (.var 0) "rows") (.var 2)) (L_Net_ties_1)) (
 .nil)
noncomputable def T_Net_ties_1:Sts:=.cons (.ret (.var 1)) (
 .nil)
noncomputable def zdt:Fn:=⟨["self"],["self", "found", "place", "other"],4,
 .cons (.assign (.one 1) (.list (.nil))) (
 .cons (.for (.one 2) (.range1 (.attr (.var 0) "size")) (L_Net_ties_2)) (
 T_Net_ties_1))⟩
noncomputable def T_Net_beside_1:Sts:=.cons (.ret (.b1 .list (.idx (.attr (.var 0) "rows") (.var 1)))) (
 .nil)
noncomputable def zcw:Fn:=⟨["self", "place"],["self", "place"],2,
 .cons (.iff (.not (.call "is_place" (.cons (.var 1) (.cons (.attr (.var 0) "size") .nil)))) (.cons (.raise "NoPlace" "no such place") (
  .nil)) (.nil)) (
 T_Net_beside_1)⟩
noncomputable def T_mates_1:Sts:=.cons (.iff (.bool false (.cons (.cmp .GtE (.idx (.var 2) (.idx (.var 3) (.int 0))) (.int 0)) (.cons (.cmp .GtE (.idx (.var 2) (.idx (.var 3) (.int 1))) (.int 0)) .nil))) (.cons (.raise "BadPairs" "a place in two pairs") (
  .nil)) (.nil)) (
 .cons (.setitem (.var 2) (.idx (.var 3) (.int 0)) (.idx (.var 3) (.int 1))) (
 .cons (.setitem (.var 2) (.idx (.var 3) (.int 1)) (.idx (.var 3) (.int 0))) (
 .nil)))
noncomputable def L_mates_1:Sts:=.cons (.iff (.bool false (.cons (.not (.call "is_tie" (.cons (.var 3) (.cons (.attr (.var 0) "size") .nil)))) (.cons (.cmp .NotIn (.idx (.var 3) (.int 1)) (.idx (.attr (.var 0) "rows") (.idx (.var 3) (.int 0)))) .nil))) (.cons (.raise "BadPairs" "a pair that is no tie") (
  .nil)) (.nil)) (
 T_mates_1)
noncomputable def T_mates_2:Sts:=.cons (.ret (.var 2)) (
 .nil)
noncomputable def T_mates_3:Sts:=.cons (.for (.one 3) (.var 1) (L_mates_1)) (
 T_mates_2)
noncomputable def zhy:Fn:=⟨["net", "pairs"],["net", "pairs", "found", "pair"],5,
 .cons (.iff (.not (.isin (.var 1) .list)) (.cons (.raise "BadPairs" "no list") (
  .nil)) (.nil)) (
 .cons (.assign (.one 2) (.comp [("place",4)] (.neg (.int 1)) (.one 4) (.range1 (.attr (.var 0) "size")) .none)) (
 T_mates_3))⟩
noncomputable def zk5:Fn:=⟨["mate"],["mate"],2,
 .cons (.ret (.comp [("place",1)] (.tuple (.cons (.var 1) (.cons (.idx (.var 0) (.var 1)) .nil))) (.one 1) (.range1 (.b1 .len (.var 0))) (.some (.cmp .Gt (.idx (.var 0) (.var 1)) (.var 1))))) (
 .nil)⟩
noncomputable def T_is_way_1:Sts:=.cons (.setitem (.var 3) (.var 4) (.tt)) (
 .nil)
noncomputable def L_is_way_1:Sts:=.cons (.iff (.bool false (.cons (.not (.call "is_place" (.cons (.var 4) (.cons (.attr (.var 0) "size") .nil)))) (.cons (.cmp .In (.var 4) (.var 3)) .nil))) (.cons (.ret (.ff)) (
  .nil)) (.nil)) (
 T_is_way_1)
noncomputable def L_is_way_2:Sts:=.cons (.iff (.cmp .NotIn (.idx (.var 2) (.bin .Add (.var 5) (.int 1))) (.idx (.attr (.var 0) "rows") (.idx (.var 2) (.var 5)))) (.cons (.ret (.ff)) (
  .nil)) (.nil)) (
 .cons (.iff (.cmp .NotEq (.cmp .Eq (.idx (.var 1) (.idx (.var 2) (.var 5))) (.idx (.var 2) (.bin .Add (.var 5) (.int 1)))) (.cmp .Eq (.bin .Mod (.var 5) (.int 2)) (.int 1))) (.cons (.ret (.ff)) (
  .nil)) (.nil)) (
 .nil))
noncomputable def T_is_way_2:Sts:=.cons (.ret (.tt)) (
 .nil)
noncomputable def T_is_way_3:Sts:=.cons (.iff (.bool false (.cons (.cmp .GtE (.idx (.var 1) (.idx (.var 2) (.int 0))) (.int 0)) (.cons (.cmp .GtE (.idx (.var 1) (.idx (.var 2) (.neg (.int 1)))) (.int 0)) .nil))) (.cons (.ret (.ff)) (
  .nil)) (.nil)) (
 .cons (.for (.one 5) (.range1 (.bin .Sub (.b1 .len (.var 2)) (.int 1))) (L_is_way_2)) (
 T_is_way_2))
noncomputable def zfD:Fn:=⟨["net", "mate", "way"],["net", "mate", "way", "seen", "place", "k"],6,
 .cons (.iff (.bool false (.cons (.not (.isin (.var 2) .list)) (.cons (.cmp .Lt (.b1 .len (.var 2)) (.int 2)) (.cons (.cmp .Eq (.bin .Mod (.b1 .len (.var 2)) (.int 2)) (.int 1)) .nil)))) (.cons (.ret (.ff)) (
  .nil)) (.nil)) (
 .cons (.assign (.one 3) (.dict0)) (
 .cons (.for (.one 4) (.var 2) (L_is_way_1)) (
 T_is_way_3)))⟩
noncomputable def L_turned_1:Sts:=.cons (.setitem (.var 3) (.idx (.var 2) (.var 4)) (.idx (.var 2) (.bin .Add (.var 4) (.int 1)))) (
 .cons (.setitem (.var 3) (.idx (.var 2) (.bin .Add (.var 4) (.int 1))) (.idx (.var 2) (.var 4))) (
 .nil))
noncomputable def T_turned_1:Sts:=.cons (.ret (.call "told" (.cons (.var 3) .nil))) (
 .nil)
noncomputable def T_turned_2:Sts:=.cons (.for (.one 4) (.range3 (.int 0) (.b1 .len (.var 2)) (.int 2)) (L_turned_1)) (
 T_turned_1)
noncomputable def T_turned_3:Sts:=.cons (.iff (.not (.call "is_way" (.cons (.var 0) (.cons (.var 3) (.cons (.var 2) .nil))))) (.cons (.raise "BadWay" "no way") (
  .nil)) (.nil)) (
 T_turned_2)
noncomputable def zfC:Fn:=⟨["net", "pairs", "way"],["net", "pairs", "way", "mate", "k"],5,
 .cons (.assign (.one 3) (.call "mates" (.cons (.var 0) (.cons (.var 1) .nil)))) (
 T_turned_3)⟩
noncomputable def T_Search_init_1:Sts:=.cons (.setattr (.var 0) "waiting" (.list (.cons (.var 3) .nil))) (
 .nil)
noncomputable def T_Search_init_2:Sts:=.cons (.setattr (.var 0) "outer" (.comp [("place",6)] (.cmp .Eq (.var 6) (.var 3)) (.one 6) (.range1 (.attr (.var 1) "size")) .none)) (
 T_Search_init_1)
noncomputable def T_Search_init_3:Sts:=.cons (.setattr (.var 0) "base" (.comp [("place",5)] (.var 5) (.one 5) (.range1 (.attr (.var 1) "size")) .none)) (
 T_Search_init_2)
noncomputable def T_Search_init_4:Sts:=.cons (.setattr (.var 0) "back" (.comp [("place",4)] (.neg (.int 1)) (.one 4) (.range1 (.attr (.var 1) "size")) .none)) (
 T_Search_init_3)
noncomputable def T_Search_init_5:Sts:=.cons (.setattr (.var 0) "root" (.var 3)) (
 T_Search_init_4)
noncomputable def T_Search_init_6:Sts:=.cons (.setattr (.var 0) "mate" (.var 2)) (
 T_Search_init_5)
noncomputable def zcd:Fn:=⟨["self", "net", "mate", "root"],["self", "net", "mate", "root"],7,
 .cons (.setattr (.var 0) "ground" (.var 1)) (
 T_Search_init_6)⟩
noncomputable def T_Search_meeting_1:Sts:=.cons (.setitem (.var 3) (.var 4) (.tt)) (
 .nil)
noncomputable def L_Search_meeting_1:Sts:=.cons (.assign (.one 4) (.idx (.attr (.var 0) "base") (.idx (.attr (.var 0) "back") (.idx (.attr (.var 0) "mate") (.var 4))))) (
 T_Search_meeting_1)
noncomputable def L_Search_meeting_2:Sts:=.cons (.assign (.one 4) (.idx (.attr (.var 0) "base") (.idx (.attr (.var 0) "back") (.idx (.attr (.var 0) "mate") (.var 4))))) (
 .nil)
noncomputable def T_Search_meeting_2:Sts:=.cons (.ret (.var 4)) (
 .nil)
noncomputable def T_Search_meeting_3:Sts:=.cons (.whil (.cmp .NotIn (.var 4) (.var 3)) (L_Search_meeting_2)) (
 T_Search_meeting_2)
noncomputable def T_Search_meeting_4:Sts:=.cons (.assign (.one 4) (.idx (.attr (.var 0) "base") (.var 2))) (
 T_Search_meeting_3)
noncomputable def T_Search_meeting_5:Sts:=.cons (.whil (.cmp .GtE (.idx (.attr (.var 0) "mate") (.var 4)) (.int 0)) (L_Search_meeting_1)) (
 T_Search_meeting_4)
noncomputable def T_Search_meeting_6:Sts:=.cons (.setitem (.var 3) (.var 4) (.tt)) (
 T_Search_meeting_5)
noncomputable def T_Search_meeting_7:Sts:=.cons (.assign (.one 4) (.idx (.attr (.var 0) "base") (.var 1))) (
 T_Search_meeting_6)
noncomputable def zbq:Fn:=⟨["self", "one", "other"],["self", "one", "other", "seen", "place"],5,
 .cons (.assign (.one 3) (.dict0)) (
 T_Search_meeting_7)⟩
noncomputable def T_Search_marked_1:Sts:=.cons (.assign (.one 1) (.idx (.attr (.var 0) "back") (.var 3))) (
 .nil)
noncomputable def T_Search_marked_2:Sts:=.cons (.assign (.one 3) (.idx (.attr (.var 0) "mate") (.var 1))) (
 T_Search_marked_1)
noncomputable def T_Search_marked_3:Sts:=.cons (.setitem (.attr (.var 0) "back") (.var 1) (.var 3)) (
 T_Search_marked_2)
noncomputable def T_Search_marked_4:Sts:=.cons (.setitem (.var 4) (.idx (.attr (.var 0) "base") (.idx (.attr (.var 0) "mate") (.var 1))) (.tt)) (
 T_Search_marked_3)
noncomputable def L_Search_marked_1:Sts:=.cons (.setitem (.var 4) (.idx (.attr (.var 0) "base") (.var 1)) (.tt)) (
 T_Search_marked_4)
noncomputable def zbD:Fn:=⟨["self", "place", "meet", "child", "ring"],["self", "place", "meet", "child", "ring"],5,
 .cons (.whil (.cmp .NotEq (.idx (.attr (.var 0) "base") (.var 1)) (.var 2)) (L_Search_marked_1)) (
 .nil)⟩
noncomputable def T_Search_shrink_1:Sts:=.cons (.expr (.m1 (.attr (.var 0) "waiting") .append (.var 5))) (
   .nil)
noncomputable def T_Search_shrink_2:Sts:=.cons (.iff (.not (.idx (.attr (.var 0) "outer") (.var 5))) (.cons (.setitem (.attr (.var 0) "outer") (.var 5) (.tt)) (
   T_Search_shrink_1)) (.nil)) (
  .nil)
noncomputable def L_Search_shrink_1:Sts:=.cons (.iff (.cmp .In (.idx (.attr (.var 0) "base") (.var 5)) (.var 4)) (.cons (.setitem (.attr (.var 0) "base") (.var 5) (.var 3)) (
  T_Search_shrink_2)) (.nil)) (
 .nil)
noncomputable def T_Search_shrink_3:Sts:=.cons (.for (.one 5) (.range1 (.attr (.attr (.var 0) "ground") "size")) (L_Search_shrink_1)) (
 .nil)
noncomputable def T_Search_shrink_4:Sts:=.cons (.expr (.meth (.var 0) "marked" (.cons (.var 2) (.cons (.var 3) (.cons (.var 1) (.cons (.var 4) .nil)))))) (
 T_Search_shrink_3)
noncomputable def T_Search_shrink_5:Sts:=.cons (.expr (.meth (.var 0) "marked" (.cons (.var 1) (.cons (.var 3) (.cons (.var 2) (.cons (.var 4) .nil)))))) (
 T_Search_shrink_4)
noncomputable def T_Search_shrink_6:Sts:=.cons (.assign (.one 4) (.dict0)) (
 T_Search_shrink_5)
noncomputable def zbC:Fn:=⟨["self", "one", "other"],["self", "one", "other", "meet", "ring", "place"],6,
 .cons (.assign (.one 3) (.meth (.var 0) "meeting" (.cons (.var 1) (.cons (.var 2) .nil)))) (
 T_Search_shrink_6)⟩
noncomputable def T_Search_step_1:Sts:=.cons (.ret (.ff)) (
  .nil)
noncomputable def T_Search_step_2:Sts:=.cons (.ret (.ff)) (
 .nil)
noncomputable def T_Search_step_3:Sts:=.cons (.expr (.m1 (.attr (.var 0) "waiting") .append (.idx (.attr (.var 0) "mate") (.var 2)))) (
 T_Search_step_2)
noncomputable def T_Search_step_4:Sts:=.cons (.setitem (.attr (.var 0) "outer") (.idx (.attr (.var 0) "mate") (.var 2)) (.tt)) (
 T_Search_step_3)
noncomputable def T_Search_step_5:Sts:=.cons (.iff (.cmp .Lt (.idx (.attr (.var 0) "mate") (.var 2)) (.int 0)) (.cons (.ret (.tt)) (
  .nil)) (.nil)) (
 T_Search_step_4)
noncomputable def T_Search_step_6:Sts:=.cons (.setitem (.attr (.var 0) "back") (.var 2) (.var 1)) (
 T_Search_step_5)
noncomputable def T_Search_step_7:Sts:=.cons (.iff (.cmp .GtE (.idx (.attr (.var 0) "back") (.var 2)) (.int 0)) (.cons (.ret (.ff)) (
  .nil)) (.nil)) (
 T_Search_step_6)
noncomputable def T_Search_step_8:Sts:=.cons (.iff (.bool false (.cons (.cmp .Eq (.var 2) (.attr (.var 0) "root")) (.cons (.bool true (.cons (.cmp .GtE (.idx (.attr (.var 0) "mate") (.var 2)) (.int 0)) (.cons (.cmp .GtE (.idx (.attr (.var 0) "back") (.idx (.attr (.var 0) "mate") (.var 2))) (.int 0)) .nil))) .nil))) (.cons (.expr (.meth (.var 0) "shrink" (.cons (.var 1) (.cons (.var 2) .nil)))) (
  T_Search_step_1)) (.nil)) (
 T_Search_step_7)
noncomputable def zcc:Fn:=⟨["self", "place", "other"],["self", "place", "other"],3,
 .cons (.iff (.bool false (.cons (.cmp .Eq (.idx (.attr (.var 0) "base") (.var 1)) (.idx (.attr (.var 0) "base") (.var 2))) (.cons (.cmp .Eq (.idx (.attr (.var 0) "mate") (.var 1)) (.var 2)) .nil))) (.cons (.ret (.ff)) (
  .nil)) (.nil)) (
 T_Search_step_8)⟩
noncomputable def L_Search_found_1:Sts:=.cons (.iff (.meth (.var 0) "step" (.cons (.var 1) (.cons (.var 2) .nil))) (.cons (.ret (.var 2)) (
  .nil)) (.nil)) (
 .nil)
noncomputable def T_Search_found_1:Sts:=.cons (.for (.one 2) (.idx (.attr (.attr (.var 0) "ground") "rows") (.var 1)) (L_Search_found_1)) (
 .nil)
noncomputable def T_Search_found_2:Sts:=.cons (.setattr (.var 0) "waiting" (.slice (.attr (.var 0) "waiting") (.some (.int 1)) .none)) (
 T_Search_found_1)
noncomputable def L_Search_found_2:Sts:=.cons (.assign (.one 1) (.idx (.attr (.var 0) "waiting") (.int 0))) (
 T_Search_found_2)
noncomputable def T_Search_found_3:Sts:=.cons (.ret (.neg (.int 1))) (
 .nil)
noncomputable def zbS:Fn:=⟨["self"],["self", "place", "other"],3,
 .cons (.whil (.cmp .Gt (.b1 .len (.attr (.var 0) "waiting")) (.int 0)) (L_Search_found_2)) (
 T_Search_found_3)⟩
noncomputable def T_road_1:Sts:=.cons (.assign (.one 1) (.idx (.attr (.var 0) "mate") (.idx (.attr (.var 0) "back") (.var 1)))) (
 .nil)
noncomputable def T_road_2:Sts:=.cons (.expr (.m1 (.var 2) .append (.idx (.attr (.var 0) "back") (.var 1)))) (
 T_road_1)
noncomputable def L_road_1:Sts:=.cons (.expr (.m1 (.var 2) .append (.var 1))) (
 T_road_2)
noncomputable def T_road_3:Sts:=.cons (.ret (.var 2)) (
 .nil)
noncomputable def T_road_4:Sts:=.cons (.whil (.cmp .GtE (.var 1) (.int 0)) (L_road_1)) (
 T_road_3)
noncomputable def zk6:Fn:=⟨["search", "end"],["search", "end", "found"],3,
 .cons (.assign (.one 2) (.list (.nil))) (
 T_road_4)⟩
noncomputable def T_better_1:Sts:=.cons (.iff (.cmp .GtE (.var 5) (.int 0)) (.cons (.ret (.call "road" (.cons (.var 4) (.cons (.var 5) .nil)))) (
   .nil)) (.nil)) (
  .nil)
noncomputable def T_better_2:Sts:=.cons (.assign (.one 5) (.meth (.var 4) "found" (.nil))) (
  T_better_1)
noncomputable def L_better_1:Sts:=.cons (.iff (.cmp .Lt (.idx (.var 2) (.var 3)) (.int 0)) (.cons (.assign (.one 4) (.make "Search" (.cons (.var 0) (.cons (.var 2) (.cons (.var 3) .nil))))) (
  T_better_2)) (.nil)) (
 .nil)
noncomputable def T_better_3:Sts:=.cons (.ret (.none)) (
 .nil)
noncomputable def T_better_4:Sts:=.cons (.for (.one 3) (.range1 (.attr (.var 0) "size")) (L_better_1)) (
 T_better_3)
noncomputable def zfE:Fn:=⟨["net", "pairs"],["net", "pairs", "mate", "root", "search", "end"],6,
 .cons (.assign (.one 2) (.call "mates" (.cons (.var 0) (.cons (.var 1) .nil)))) (
 T_better_4)⟩
noncomputable def T_grown_1:Sts:=.cons (.assign (.one 2) (.call "better" (.cons (.var 0) (.cons (.var 1) .nil)))) (
 .nil)
noncomputable def L_grown_1:Sts:=.cons (.assign (.one 1) (.call "turned" (.cons (.var 0) (.cons (.var 1) (.cons (.var 2) .nil))))) (
 T_grown_1)
noncomputable def T_grown_2:Sts:=.cons (.ret (.var 1)) (
 .nil)
noncomputable def T_grown_3:Sts:=.cons (.whil (.cmp .IsNot (.var 2) (.none)) (L_grown_1)) (
 T_grown_2)
noncomputable def zhz:Fn:=⟨["net", "pairs"],["net", "pairs", "way"],3,
 .cons (.assign (.one 2) (.call "better" (.cons (.var 0) (.cons (.var 1) .nil)))) (
 T_grown_3)⟩
noncomputable def zk7:Fn:=⟨["net"],["net"],1,
 .cons (.ret (.call "grown" (.cons (.var 0) (.cons (.list .nil) .nil)))) (
 .nil)⟩
noncomputable def T_Kept_init_1:Sts:=.cons (.setattr (.var 0) "best" (.list (.nil))) (
 .nil)
noncomputable def zbE:Fn:=⟨["self", "size"],["self", "size"],2,
 .cons (.setattr (.var 0) "now" (.make "Net" (.cons (.var 1) (.cons (.list .nil) .nil)))) (
 T_Kept_init_1)⟩
noncomputable def T_Kept_need_tie_1:Sts:=.cons (.ret (.tuple (.cons (.min2 (.var 1) (.var 2)) (.cons (.max2 (.var 1) (.var 2)) .nil)))) (
 .nil)
noncomputable def zaS:Fn:=⟨["self", "one", "other"],["self", "one", "other"],3,
 .cons (.iff (.bool false (.cons (.not (.call "is_place" (.cons (.var 1) (.cons (.attr (.attr (.var 0) "now") "size") .nil)))) (.cons (.not (.call "is_place" (.cons (.var 2) (.cons (.attr (.attr (.var 0) "now") "size") .nil)))) (.cons (.cmp .Eq (.var 1) (.var 2)) .nil)))) (.cons (.raise "NoPlace" "no two places") (
  .nil)) (.nil)) (
 T_Kept_need_tie_1)⟩
noncomputable def T_Kept_become_1:Sts:=.cons (.ret (.bin .Sub (.b1 .len (.attr (.var 0) "best")) (.var 3))) (
 .nil)
noncomputable def T_Kept_become_2:Sts:=.cons (.setattr (.var 0) "best" (.call "grown" (.cons (.attr (.var 0) "now") (.cons (.var 2) .nil)))) (
 T_Kept_become_1)
noncomputable def T_Kept_become_3:Sts:=.cons (.setattr (.var 0) "now" (.make "Net" (.cons (.attr (.attr (.var 0) "now") "size") (.cons (.var 1) .nil)))) (
 T_Kept_become_2)
noncomputable def zce:Fn:=⟨["self", "ties", "pairs"],["self", "ties", "pairs", "before"],4,
 .cons (.assign (.one 3) (.b1 .len (.attr (.var 0) "best"))) (
 T_Kept_become_3)⟩
noncomputable def T_Kept_put_1:Sts:=.cons (.ret (.meth (.var 0) "become" (.cons (.bin .Add (.meth (.attr (.var 0) "now") "ties" .nil) (.list (.cons (.var 3) .nil))) (.cons (.attr (.var 0) "best") .nil)))) (
 .nil)
noncomputable def T_Kept_put_2:Sts:=.cons (.iff (.cmp .In (.var 3) (.meth (.attr (.var 0) "now") "ties" (.nil))) (.cons (.raise "TieThere" "the tie is there") (
  .nil)) (.nil)) (
 T_Kept_put_1)
noncomputable def zb2:Fn:=⟨["self", "one", "other"],["self", "one", "other", "tie"],4,
 .cons (.assign (.one 3) (.meth (.var 0) "need_tie" (.cons (.var 1) (.cons (.var 2) .nil)))) (
 T_Kept_put_2)⟩
noncomputable def T_Kept_cut_1:Sts:=.cons (.ret (.meth (.var 0) "become" (.cons (.var 4) (.cons (.comp [("pair",6)] (.var 6) (.one 6) (.attr (.var 0) "best") (.some (.cmp .NotEq (.var 6) (.var 3)))) .nil)))) (
 .nil)
noncomputable def T_Kept_cut_2:Sts:=.cons (.assign (.one 4) (.comp [("row",5)] (.var 5) (.one 5) (.meth (.attr (.var 0) "now") "ties" (.nil)) (.some (.cmp .NotEq (.var 5) (.var 3))))) (
 T_Kept_cut_1)
noncomputable def T_Kept_cut_3:Sts:=.cons (.iff (.cmp .NotIn (.var 3) (.meth (.attr (.var 0) "now") "ties" (.nil))) (.cons (.raise "NoTie" "no such tie") (
  .nil)) (.nil)) (
 T_Kept_cut_2)
noncomputable def zb3:Fn:=⟨["self", "one", "other"],["self", "one", "other", "tie", "ties"],7,
 .cons (.assign (.one 3) (.meth (.var 0) "need_tie" (.cons (.var 1) (.cons (.var 2) .nil)))) (
 T_Kept_cut_3)⟩
noncomputable def zdu:Fn:=⟨["self"],["self"],1,
 .cons (.ret (.make "Net" (.cons (.attr (.attr (.var 0) "now") "size") (.cons (.meth (.attr (.var 0) "now") "ties" .nil) .nil)))) (
 .nil)⟩
noncomputable def zcx:Fn:=⟨["self"],["self"],1,
 .cons (.ret (.b1 .sorted (.attr (.var 0) "best"))) (
 .nil)⟩
noncomputable def T_leaving_1:Sts:=.cons (.ret (.var 3)) (
 .nil)
noncomputable def T_leaving_2:Sts:=.cons (.iff (.cmp .Lt (.b1 .len (.var 3)) (.b1 .len (.call "most" (.cons (.var 0) .nil)))) (.cons (.ret (.none)) (
  .nil)) (.nil)) (
 T_leaving_1)
noncomputable def T_leaving_3:Sts:=.cons (.assign (.one 3) (.call "most" (.cons (.var 2) .nil))) (
 T_leaving_2)
noncomputable def T_leaving_4:Sts:=.cons (.assign (.one 2) (.make "Net" (.cons (.attr (.var 0) "size") (.cons (.comp [("tie",4)] (.var 4) (.one 4) (.meth (.var 0) "ties" .nil) (.some (.cmp .NotIn (.var 1) (.var 4)))) .nil)))) (
 T_leaving_3)
noncomputable def zet:Fn:=⟨["net", "place"],["net", "place", "other", "found"],5,
 .cons (.expr (.meth (.var 0) "beside" (.cons (.var 1) .nil))) (
 T_leaving_4)⟩
noncomputable def L_fence_1:Sts:=.cons (.iff (.bool true (.cons (.not (.idx (.var 1) (.var 3))) (.cons (.b1 .any (.comp [("other",5)] (.idx (.var 1) (.var 5)) (.one 5) (.meth (.var 0) "beside" (.cons (.var 3) .nil)) .none)) .nil))) (.cons (.expr (.m1 (.var 2) .append (.var 3))) (
  .nil)) (.nil)) (
 .nil)
noncomputable def T_fence_1:Sts:=.cons (.ret (.var 2)) (
 .nil)
noncomputable def T_fence_2:Sts:=.cons (.for (.one 3) (.range1 (.attr (.var 0) "size")) (L_fence_1)) (
 T_fence_1)
noncomputable def T_fence_3:Sts:=.cons (.assign (.one 2) (.list (.nil))) (
 T_fence_2)
noncomputable def zhA:Fn:=⟨["net"],["net", "lonely", "found", "place"],6,
 .cons (.assign (.one 1) (.comp [("place",4)] (.cmp .IsNot (.call "leaving" (.cons (.var 0) (.cons (.var 4) .nil))) (.none)) (.one 4) (.range1 (.attr (.var 0) "size")) .none)) (
 T_fence_3)⟩
noncomputable def ze0:Fn:=⟨["_law_error"],["_law_error", "_law_many"],2,
 .cons (.assign (.one 1) (.int 0)) (
 .cons (.assign (.one 1) (.bin .Add (.var 1) (.b1 .int (.isin (.var 0) (.cls "BadNet"))))) (
 .cons (.assign (.one 1) (.bin .Add (.var 1) (.b1 .int (.isin (.var 0) (.cls "NoPlace"))))) (
 .cons (.assign (.one 1) (.bin .Add (.var 1) (.b1 .int (.isin (.var 0) (.cls "BadPairs"))))) (
 .cons (.assign (.one 1) (.bin .Add (.var 1) (.b1 .int (.isin (.var 0) (.cls "BadWay"))))) (
 .cons (.assign (.one 1) (.bin .Add (.var 1) (.b1 .int (.isin (.var 0) (.cls "TieThere"))))) (
 .cons (.assign (.one 1) (.bin .Add (.var 1) (.b1 .int (.isin (.var 0) (.cls "NoTie"))))) (
 .cons (.assign (.one 1) (.bin .Add (.var 1) (.b1 .int (.isin (.var 0) (.cls "OddRing"))))) (
 .cons (.ret (.bool true (.cons (.cmp .Eq (.var 1) (.int 1)) (.cons (.isin (.var 0) (.cls "NetError")) (.cons (.isin (.var 0) (.cls "ValueError")) .nil))))) (
 .nil)))))))))⟩
noncomputable def zcY:Fn:=⟨["_law_found"],["_law_found"],1,
 .cons (.ret (.bool true (.cons (.isin (.var 0) .int) (.cons (.not (.isin (.var 0) .bool)) .nil)))) (
 .nil)⟩
noncomputable def zcb:Fn:=⟨["_law_script", "_law_k"],["_law_script", "_law_k"],2,
 .cons (.iff (.cmp .Lt (.var 1) (.b1 .len (.var 0))) (.cons (.ret (.idx (.var 0) (.var 1))) (
  .nil)) (.nil)) (
 .cons (.ret (.int 0)) (
 .nil))⟩
noncomputable def T_law_near_1:Sts:=.cons (.expr (.m1 (.idx (.var 2) (.var 4)) .append (.var 3))) (
 .nil)
noncomputable def L_law_near_1:Sts:=.cons (.expr (.m1 (.idx (.var 2) (.var 3)) .append (.var 4))) (
 T_law_near_1)
noncomputable def T_law_near_2:Sts:=.cons (.ret (.comp [("_law_row",6)] (.b1 .sorted (.var 6)) (.one 6) (.var 2) .none)) (
 .nil)
noncomputable def T_law_near_3:Sts:=.cons (.for (.many [3,4]) (.var 1) (L_law_near_1)) (
 T_law_near_2)
noncomputable def zdq:Fn:=⟨["_law_size", "_law_ties"],["_law_size", "_law_ties", "_law_found", "_law_one", "_law_other"],7,
 .cons (.assign (.one 2) (.comp [("_law_place",5)] (.list (.nil)) (.one 5) (.range1 (.var 0)) .none)) (
 T_law_near_3)⟩
noncomputable def T_law_part_1:Sts:=.cons (.expr (.m1 (.var 4) .append (.var 6))) (
  .nil)
noncomputable def L_law_part_1:Sts:=.cons (.iff (.bool true (.cons (.cmp .In (.var 6) (.var 2)) (.cons (.cmp .NotIn (.var 6) (.var 3)) .nil))) (.cons (.setitem (.var 3) (.var 6) (.tt)) (
  T_law_part_1)) (.nil)) (
 .nil)
noncomputable def T_law_part_2:Sts:=.cons (.for (.one 6) (.idx (.var 0) (.var 5)) (L_law_part_1)) (
 .nil)
noncomputable def L_law_part_2:Sts:=.cons (.assign (.one 5) (.m0 (.var 4) .pop)) (
 T_law_part_2)
noncomputable def T_law_part_3:Sts:=.cons (.ret (.b1 .sorted (.var 3))) (
 .nil)
noncomputable def T_law_part_4:Sts:=.cons (.whil (.cmp .NotEq (.var 4) (.list (.nil))) (L_law_part_2)) (
 T_law_part_3)
noncomputable def T_law_part_5:Sts:=.cons (.assign (.one 4) (.list (.cons (.var 1) .nil))) (
 T_law_part_4)
noncomputable def zdp:Fn:=⟨["_law_near_here", "_law_place", "_law_there"],["_law_near_here", "_law_place", "_law_there", "_law_met", "_law_waiting", "_law_here", "_law_other"],7,
 .cons (.assign (.one 3) (.dict1 1)) (
 T_law_part_5)⟩
noncomputable def L_law_parts_1:Sts:=.cons (.setitem (.var 6) (.var 8) (.tt)) (
 .nil)
noncomputable def T_law_parts_1:Sts:=.cons (.for (.one 8) (.idx (.var 5) (.neg (.int 1))) (L_law_parts_1)) (
  .nil)
noncomputable def L_law_parts_2:Sts:=.cons (.iff (.bool true (.cons (.cmp .In (.var 7) (.var 4)) (.cons (.cmp .NotIn (.var 7) (.var 6)) .nil))) (.cons (.expr (.m1 (.var 5) .append (.call "_law_part" (.cons (.var 3) (.cons (.var 7) (.cons (.var 4) .nil)))))) (
  T_law_parts_1)) (.nil)) (
 .nil)
noncomputable def T_law_parts_2:Sts:=.cons (.ret (.var 5)) (
 .nil)
noncomputable def T_law_parts_3:Sts:=.cons (.for (.one 7) (.range1 (.var 0)) (L_law_parts_2)) (
 T_law_parts_2)
noncomputable def T_law_parts_4:Sts:=.cons (.assign (.one 6) (.dict0)) (
 T_law_parts_3)
noncomputable def T_law_parts_5:Sts:=.cons (.assign (.one 5) (.list (.nil))) (
 T_law_parts_4)
noncomputable def T_law_parts_6:Sts:=.cons (.assign (.one 4) (.b1 .dict (.comp [("_law_place",9)] (.tuple (.cons (.var 9) (.cons (.tt) .nil))) (.one 9) (.range1 (.var 0)) (.some (.cmp .NotIn (.var 9) (.var 2)))))) (
 T_law_parts_5)
noncomputable def zcZ:Fn:=⟨["_law_size", "_law_ties", "_law_taken"],["_law_size", "_law_ties", "_law_taken", "_law_near_here", "_law_there", "_law_found", "_law_met", "_law_place", "_law_other"],10,
 .cons (.assign (.one 3) (.call "_law_near" (.cons (.var 0) (.cons (.var 1) .nil)))) (
 T_law_parts_6)⟩
noncomputable def T_law_fenced_1:Sts:=.cons (.ret (.cmp .Eq (.var 3) (.bin .Sub (.b1 .len (.var 4)) (.b1 .len (.var 2))))) (
 .nil)
noncomputable def T_law_fenced_2:Sts:=.cons (.assign (.one 4) (.comp [("_law_part_here",6)] (.var 6) (.one 6) (.call "_law_parts" (.cons (.var 0) (.cons (.var 1) (.cons (.var 2) .nil)))) (.some (.cmp .Eq (.bin .Mod (.b1 .len (.var 6)) (.int 2)) (.int 1))))) (
 T_law_fenced_1)
noncomputable def T_law_fenced_3:Sts:=.cons (.iff (.bool false (.cons (.cmp .NotEq (.var 2) (.sset (.var 2))) (.cons (.bool true (.cons (.cmp .NotEq (.var 2) (.list .nil)) (.cons (.bool false (.cons (.cmp .Lt (.idx (.var 2) (.int 0)) (.int 0)) (.cons (.cmp .GtE (.idx (.var 2) (.neg (.int 1))) (.var 0)) .nil))) .nil))) .nil))) (.cons (.ret (.ff)) (
  .nil)) (.nil)) (
 T_law_fenced_2)
noncomputable def zcu:Fn:=⟨["_law_size", "_law_ties", "_law_row", "_law_many"],["_law_size", "_law_ties", "_law_row", "_law_many", "_law_odd"],7,
 .cons (.iff (.bool false (.cons (.not (.isin (.var 2) .list)) (.cons (.not (.b1 .all (.comp [("_law_place",5)] (.call "_law_whole" (.cons (.var 5) .nil)) (.one 5) (.var 2) .none))) .nil))) (.cons (.ret (.ff)) (
  .nil)) (.nil)) (
 T_law_fenced_3)⟩
noncomputable def T_law_alone_1:Sts:=.cons (.assign (.one 4) (.var 5)) (
 .nil)
noncomputable def T_law_alone_2:Sts:=.cons (.setitem (.var 3) (.idx (.var 5) (.int 1)) (.tt)) (
 T_law_alone_1)
noncomputable def T_law_alone_3:Sts:=.cons (.setitem (.var 3) (.idx (.var 5) (.int 0)) (.tt)) (
 T_law_alone_2)
noncomputable def T_law_alone_4:Sts:=.cons (.iff (.bool false (.cons (.cmp .In (.idx (.var 5) (.int 0)) (.var 3)) (.cons (.cmp .In (.idx (.var 5) (.int 1)) (.var 3)) .nil))) (.cons (.ret (.none)) (
  .nil)) (.nil)) (
 T_law_alone_3)
noncomputable def T_law_alone_5:Sts:=.cons (.iff (.bool false (.cons (.not (.call "_law_whole" (.cons (.idx (.var 5) (.int 0)) .nil))) (.cons (.not (.call "_law_whole" (.cons (.idx (.var 5) (.int 1)) .nil))) (.cons (.not (.cmp .Lt (.var 4) (.var 5))) .nil)))) (.cons (.ret (.none)) (
  .nil)) (.nil)) (
 T_law_alone_4)
noncomputable def L_law_alone_1:Sts:=.cons (.iff (.bool false (.cons (.not (.isin (.var 5) .tuple)) (.cons (.cmp .NotEq (.b1 .len (.var 5)) (.int 2)) (.cons (.cmp .NotIn (.var 5) (.var 1)) .nil)))) (.cons (.ret (.none)) (
  .nil)) (.nil)) (
 T_law_alone_5)
noncomputable def T_law_alone_6:Sts:=.cons (.ret (.comp [("_law_place",6)] (.var 6) (.one 6) (.range1 (.var 0)) (.some (.cmp .NotIn (.var 6) (.var 3))))) (
 .nil)
noncomputable def T_law_alone_7:Sts:=.cons (.for (.one 5) (.var 2) (L_law_alone_1)) (
 T_law_alone_6)
noncomputable def T_law_alone_8:Sts:=.cons (.assign (.one 4) (.tuple (.cons (.neg (.int 1)) (.cons (.neg (.int 1)) .nil)))) (
 T_law_alone_7)
noncomputable def T_law_alone_9:Sts:=.cons (.assign (.one 3) (.dict0)) (
 T_law_alone_8)
noncomputable def zc0:Fn:=⟨["_law_size", "_law_ties", "_law_pairs"],["_law_size", "_law_ties", "_law_pairs", "_law_taken", "_law_last", "_law_pair"],7,
 .cons (.iff (.not (.isin (.var 2) .list)) (.cons (.ret (.none)) (
  .nil)) (.nil)) (
 T_law_alone_9)⟩
noncomputable def T_law_told_1:Sts:=.cons (.ret (.meth (.var 0) "put" (.cons (.var 2) (.cons (.var 3) .nil)))) (
  .nil)
noncomputable def zbh:Fn:=⟨["_law_kept", "_law_is_cut", "_law_one", "_law_other"],["_law_kept", "_law_is_cut", "_law_one", "_law_other", "_law_error"],5,
 .cons (.tryx (.cons (.iff (.var 1) (.cons (.ret (.meth (.var 0) "cut" (.cons (.var 2) (.cons (.var 3) .nil)))) (
   .nil)) (.nil)) (
  T_law_told_1)) (.cons "NoPlace" 4 (.cons (.ret (.bin .Mult (.str "no place") (.b1 .int (.call "_law_sole" (.cons (.var 4) .nil))))) (
  .nil)) (.cons "TieThere" 4 (.cons (.ret (.bin .Mult (.str "there") (.b1 .int (.call "_law_sole" (.cons (.var 4) .nil))))) (
  .nil)) (.cons "NoTie" 4 (.cons (.ret (.bin .Mult (.str "no tie") (.b1 .int (.call "_law_sole" (.cons (.var 4) .nil))))) (
  .nil)) (.nil))))) (
 .nil)⟩
noncomputable def T_law_stands_1:Sts:=.cons (.ret (.var 7)) (
 .nil)
noncomputable def T_law_stands_2:Sts:=.cons (.expr (.m1 (.meth (.var 3) "ties" (.nil)) .append (.tuple (.cons (.int 0) (.cons (.int 0) .nil))))) (
 T_law_stands_1)
noncomputable def T_law_stands_3:Sts:=.cons (.expr (.m1 (.var 4) .append (.tuple (.cons (.int 0) (.cons (.int 0) .nil))))) (
 T_law_stands_2)
noncomputable def T_law_stands_4:Sts:=.cons (.assign (.one 7) (.b1 .len (.var 4))) (
 T_law_stands_3)
noncomputable def T_law_stands_5:Sts:=.cons (.iff (.bool false (.cons (.cmp .Is (.var 6) (.none)) (.cons (.not (.call "_law_fenced" (.cons (.var 1) (.cons (.var 2) (.cons (.call "fence" (.cons (.var 3) .nil)) (.cons (.b1 .len (.var 6)) .nil)))))) .nil))) (.cons (.ret (.none)) (
  .nil)) (.nil)) (
 T_law_stands_4)
noncomputable def T_law_stands_6:Sts:=.cons (.assign (.one 6) (.call "_law_alone" (.cons (.var 1) (.cons (.var 2) (.cons (.var 4) .nil))))) (
 T_law_stands_5)
noncomputable def T_law_stands_7:Sts:=.cons (.iff (.cmp .NotEq (.meth (.var 3) "beside" (.cons (.var 5) .nil)) (.b1 .sorted (.comp [("_law_tie",8)] (.bin .Sub (.bin .Add (.idx (.var 8) (.int 0)) (.idx (.var 8) (.int 1))) (.var 5)) (.one 8) (.var 2) (.some (.cmp .In (.var 5) (.var 8)))))) (.cons (.ret (.none)) (
  .nil)) (.nil)) (
 T_law_stands_6)
noncomputable def T_law_stands_8:Sts:=.cons (.assign (.one 5) (.bin .Mod (.bin .Mult (.b1 .len (.var 2)) (.int 7)) (.var 1))) (
 T_law_stands_7)
noncomputable def T_law_stands_9:Sts:=.cons (.iff (.bool false (.cons (.cmp .NotEq (.attr (.var 3) "size") (.var 1)) (.cons (.cmp .NotEq (.meth (.var 3) "ties" .nil) (.b1 .sorted (.var 2))) .nil))) (.cons (.ret (.none)) (
  .nil)) (.nil)) (
 T_law_stands_8)
noncomputable def T_law_stands_10:Sts:=.cons (.assign (.one 4) (.meth (.var 0) "pairs" (.nil))) (
 T_law_stands_9)
noncomputable def zcs:Fn:=⟨["_law_kept", "_law_size", "_law_ties"],["_law_kept", "_law_size", "_law_ties", "_law_net", "_law_pairs", "_law_place", "_law_left", "_law_many"],9,
 .cons (.assign (.one 3) (.meth (.var 0) "net" (.nil))) (
 T_law_stands_10)⟩
noncomputable def L_law_due_1:Sts:=.cons (.iff (.bool false (.cons (.not (.call "_law_whole" (.cons (.var 5) .nil))) (.cons (.not (.cmp2 .LtE .Lt (.int 0) (.var 5) (.var 0))) .nil))) (.cons (.ret (.str "no place")) (
  .nil)) (.nil)) (
 .nil)
noncomputable def T_law_due_1:Sts:=.cons (.ret (.bin .Mult (.str "there") (.b1 .int (.cmp .In (.var 6) (.var 1))))) (
 .nil)
noncomputable def T_law_due_2:Sts:=.cons (.iff (.var 2) (.cons (.ret (.bin .Mult (.str "no tie") (.b1 .int (.cmp .NotIn (.var 6) (.var 1))))) (
  .nil)) (.nil)) (
 T_law_due_1)
noncomputable def T_law_due_3:Sts:=.cons (.assign (.one 6) (.tuple (.cons (.min2 (.var 3) (.var 4)) (.cons (.max2 (.var 3) (.var 4)) .nil)))) (
 T_law_due_2)
noncomputable def T_law_due_4:Sts:=.cons (.iff (.cmp .Eq (.var 3) (.var 4)) (.cons (.ret (.str "no place")) (
  .nil)) (.nil)) (
 T_law_due_3)
noncomputable def zcv:Fn:=⟨["_law_size", "_law_ties", "_law_is_cut", "_law_one", "_law_other"],["_law_size", "_law_ties", "_law_is_cut", "_law_one", "_law_other", "_law_place", "_law_tie"],7,
 .cons (.for (.one 5) (.tuple (.cons (.var 3) (.cons (.var 4) .nil))) (L_law_due_1)) (
 T_law_due_4)⟩
noncomputable def T_law_done_1:Sts:=.cons (.ret (.bool true (.cons (.cmp .Eq (.var 5) (.var 6)) (.cons (.cmp .Eq (.meth (.var 7) "ties" .nil) (.var 8)) .nil)))) (
 .nil)
noncomputable def T_law_done_2:Sts:=.cons (.iff (.not (.call "_law_goes" (.cons (.var 0) (.cons (.var 1) (.cons (.var 2) (.cons (.var 3) (.cons (.var 4) .nil))))))) (.cons (.ret (.ff)) (
  .nil)) (.nil)) (
 T_law_done_1)
noncomputable def T_law_done_3:Sts:=.cons (.assign (.one 8) (.b1 .sorted (.idx (.var 1) (.int 1)))) (
 T_law_done_2)
noncomputable def T_law_done_4:Sts:=.cons (.assign (.one 7) (.meth (.var 0) "net" (.nil))) (
 T_law_done_3)
noncomputable def T_law_done_5:Sts:=.cons (.assign (.one 6) (.b1 .list (.var 5))) (
 T_law_done_4)
noncomputable def zdr:Fn:=⟨["_law_kept", "_law_state", "_law_is_cut", "_law_one", "_law_other"],["_law_kept", "_law_state", "_law_is_cut", "_law_one", "_law_other", "_law_row", "_law_held", "_law_net", "_law_ties"],9,
 .cons (.assign (.one 5) (.meth (.var 0) "pairs" (.nil))) (
 T_law_done_5)⟩
noncomputable def T_law_goes_1:Sts:=.cons (.ret (.tt)) (
 .nil)
noncomputable def T_law_goes_2:Sts:=.cons (.setitem (.var 1) (.int 2) (.var 8)) (
 T_law_goes_1)
noncomputable def T_law_goes_3:Sts:=.cons (.iff (.bool false (.cons (.cmp .Is (.var 8) (.none)) (.cons (.not (.call "_law_whole" (.cons (.var 6) .nil))) (.cons (.cmp .NotEq (.var 6) (.bin .Sub (.var 8) (.idx (.var 1) (.int 2)))) (.cons (.not (.cmp2 .LtE .LtE (.neg (.int 1)) (.var 6) (.int 1))) .nil))))) (.cons (.ret (.ff)) (
  .nil)) (.nil)) (
 T_law_goes_2)
noncomputable def T_law_goes_4:Sts:=.cons (.assign (.one 8) (.call "_law_stands" (.cons (.var 0) (.cons (.idx (.var 1) (.int 0)) (.cons (.idx (.var 1) (.int 1)) .nil))))) (
 T_law_goes_3)
noncomputable def T_law_goes_5:Sts:=.cons (.iff (.var 2) (.cons (.expr (.m1 (.idx (.var 1) (.int 1)) .remove (.var 7))) (
  .nil)) (.cons (.expr (.m1 (.idx (.var 1) (.int 1)) .append (.var 7))) (
  .nil))) (
 T_law_goes_4)
noncomputable def T_law_goes_6:Sts:=.cons (.assign (.one 7) (.tuple (.cons (.min2 (.var 3) (.var 4)) (.cons (.max2 (.var 3) (.var 4)) .nil)))) (
 T_law_goes_5)
noncomputable def T_law_goes_7:Sts:=.cons (.iff (.cmp .NotEq (.var 5) (.str "")) (.cons (.ret (.bool true (.cons (.cmp .Eq (.var 6) (.var 5)) (.cons (.cmp .Eq (.call "_law_stands" (.cons (.var 0) (.cons (.idx (.var 1) (.int 0)) (.cons (.idx (.var 1) (.int 1)) .nil)))) (.idx (.var 1) (.int 2))) .nil)))) (
  .nil)) (.nil)) (
 T_law_goes_6)
noncomputable def T_law_goes_8:Sts:=.cons (.assign (.one 6) (.call "_law_told" (.cons (.var 0) (.cons (.var 2) (.cons (.var 3) (.cons (.var 4) .nil)))))) (
 T_law_goes_7)
noncomputable def zbi:Fn:=⟨["_law_kept", "_law_state", "_law_is_cut", "_law_one", "_law_other"],["_law_kept", "_law_state", "_law_is_cut", "_law_one", "_law_other", "_law_due_here", "_law_told_here", "_law_tie", "_law_many"],9,
 .cons (.assign (.one 5) (.call "_law_due" (.cons (.idx (.var 1) (.int 0)) (.cons (.idx (.var 1) (.int 1)) (.cons (.var 2) (.cons (.var 3) (.cons (.var 4) .nil))))))) (
 T_law_goes_8)⟩
noncomputable def T_law_places_1:Sts:=.cons (.iff (.cmp .Eq (.bin .Mod (.bin .FloorDiv (.var 0) (.int 9)) (.int 2)) (.int 1)) (.cons (.ret (.tuple (.cons (.var 4) (.cons (.var 3) .nil)))) (
   .nil)) (.nil)) (
  .nil)
noncomputable def T_law_places_2:Sts:=.cons (.ret (.tuple (.cons (.var 3) (.cons (.var 4) .nil)))) (
 .nil)
noncomputable def T_law_places_3:Sts:=.cons (.iff (.cmp .Eq (.bin .Mod (.var 0) (.int 9)) (.int 4)) (.cons (.assign (.one 4) (.idx (.list (.cons (.neg (.int 1)) (.cons (.var 2) (.cons (.tt) (.cons (.str "0") (.cons (.none) (.cons (.bin .Pow (.int 10) (.int 9)) (.cons (.var 3) .nil)))))))) (.bin .Mod (.bin .FloorDiv (.var 1) (.var 2)) (.int 7)))) (
  T_law_places_1)) (.nil)) (
 T_law_places_2)
noncomputable def T_law_places_4:Sts:=.cons (.assign (.one 4) (.bin .Mod (.bin .FloorDiv (.var 1) (.var 2)) (.var 2))) (
 T_law_places_3)
noncomputable def zct:Fn:=⟨["_law_cell", "_law_more", "_law_size"],["_law_cell", "_law_more", "_law_size", "_law_one", "_law_other"],5,
 .cons (.assign (.one 3) (.bin .Mod (.var 1) (.var 2))) (
 T_law_places_4)⟩
noncomputable def T_law_no_size_1:Sts:=.cons (.ret (.ff)) (
 .nil)
noncomputable def zca:Fn:=⟨["_law_size"],["_law_size", "_law_error"],2,
 .cons (.tryx (.cons (.expr (.make "Kept" (.cons (.var 0) .nil))) (
  .nil)) (.cons "BadNet" 1 (.cons (.ret (.call "_law_sole" (.cons (.var 1) .nil))) (
  .nil)) (.nil))) (
 T_law_no_size_1)⟩
noncomputable def L_law_1:Sts:=.cons (.iff (.not (.call "_law_done" (.cons (.idx (.var 3) (.int 0)) (.cons (.idx (.var 4) (.int 0)) (.cons (.ff) (.cons (.bin .Add (.var 6) (.int 1)) (.cons (.var 6) .nil))))))) (.cons (.ret (.ff)) (
  .nil)) (.nil)) (
 .nil)
noncomputable def T_law_1:Sts:=.cons (.iff (.bool true (.cons (.cmp .Gt (.var 1) (.int 2)) (.cons (.not (.call "_law_done" (.cons (.idx (.var 3) (.int 0)) (.cons (.idx (.var 4) (.int 0)) (.cons (.ff) (.cons (.int 0) (.cons (.bin .Sub (.var 1) (.int 1)) .nil))))))) .nil))) (.cons (.ret (.ff)) (
   .nil)) (.nil)) (
  .nil)
noncomputable def T_law_2:Sts:=.cons (.iff (.not (.call "_law_done" (.cons (.idx (.var 3) (.var 8)) (.cons (.idx (.var 4) (.var 8)) (.cons (.cmp .Eq (.bin .Mod (.idx (.var 0) (.var 7)) (.int 3)) (.int 2)) (.cons (.var 9) (.cons (.var 10) .nil))))))) (.cons (.ret (.ff)) (
  .nil)) (.nil)) (
 .nil)
noncomputable def T_law_3:Sts:=.cons (.assign (.many [9,10]) (.call "_law_places" (.cons (.bin .FloorDiv (.idx (.var 0) (.var 7)) (.int 24)) (.cons (.idx (.var 0) (.bin .Add (.var 7) (.int 1))) (.cons (.idx (.idx (.var 4) (.var 8)) (.int 0)) .nil))))) (
 T_law_2)
noncomputable def L_law_2:Sts:=.cons (.assign (.one 8) (.b1 .int (.cmp .Eq (.bin .Mod (.bin .FloorDiv (.idx (.var 0) (.var 7)) (.int 3)) (.int 8)) (.int 5)))) (
 T_law_3)
noncomputable def L_law_3:Sts:=.cons (.iff (.cmp .NotEq (.call "_law_stands" (.cons (.idx (.var 3) (.var 8)) (.cons (.idx (.idx (.var 4) (.var 8)) (.int 0)) (.cons (.idx (.idx (.var 4) (.var 8)) (.int 1)) .nil)))) (.idx (.idx (.var 4) (.var 8)) (.int 2))) (.cons (.ret (.ff)) (
  .nil)) (.nil)) (
 .nil)
noncomputable def T_law_4:Sts:=.cons (.ret (.bool true (.cons (.cmp .Eq (.meth (.var 5) "ties" .nil) (.list .nil)) (.cons (.cmp .Eq (.meth (.var 5) "beside" (.cons (.int 0) .nil)) (.list .nil)) .nil)))) (
 .nil)
noncomputable def T_law_5:Sts:=.cons (.for (.one 8) (.range1 (.int 2)) (L_law_3)) (
 T_law_4)
noncomputable def T_law_6:Sts:=.cons (.for (.one 7) (.range3 (.int 2) (.min2 (.bin .Sub (.b1 .len (.var 0)) (.int 1)) (.int 50)) (.int 2)) (L_law_2)) (
 T_law_5)
noncomputable def T_law_7:Sts:=.cons (.iff (.cmp .Eq (.bin .Mod (.bin .FloorDiv (.call "_law_cell_at" (.cons (.var 0) (.cons (.int 1) .nil))) (.int 5)) (.int 3)) (.int 1)) (.cons (.for (.one 6) (.range1 (.bin .Sub (.var 1) (.int 1))) (L_law_1)) (
  T_law_1)) (.nil)) (
 T_law_6)
noncomputable def T_law_8:Sts:=.cons (.iff (.not (.call "_law_no_size" (.cons (.idx (.list (.cons (.int 0) (.cons (.neg (.int 1)) (.cons (.int 41) (.cons (.tt) (.cons (.str "3") (.cons (.none) .nil))))))) (.bin .Mod (.bin .FloorDiv (.call "_law_cell_at" (.cons (.var 0) (.cons (.int 1) .nil))) (.int 15)) (.int 6))) .nil))) (.cons (.ret (.ff)) (
  .nil)) (.nil)) (
 T_law_7)
noncomputable def T_law_9:Sts:=.cons (.assign (.one 5) (.meth (.idx (.var 3) (.int 0)) "net" (.nil))) (
 T_law_8)
noncomputable def T_law_10:Sts:=.cons (.assign (.one 4) (.list (.cons (.list (.cons (.var 1) (.cons (.list .nil) (.cons (.int 0) .nil)))) (.cons (.list (.cons (.var 2) (.cons (.list .nil) (.cons (.int 0) .nil)))) .nil)))) (
 T_law_9)
noncomputable def T_law_11:Sts:=.cons (.assign (.one 3) (.list (.cons (.make "Kept" (.cons (.var 1) .nil)) (.cons (.make "Kept" (.cons (.var 2) .nil)) .nil)))) (
 T_law_10)
noncomputable def T_law_12:Sts:=.cons (.assign (.one 2) (.idx (.list (.cons (.var 1) (.cons (.int 40) .nil))) (.b1 .int (.cmp .Eq (.bin .Mod (.call "_law_cell_at" (.cons (.var 0) (.cons (.int 1) .nil))) (.int 5)) (.int 3))))) (
 T_law_11)
noncomputable def zot:Fn:=⟨["_law_script"],["_law_script", "_law_size", "_law_great", "_law_kept", "_law_states", "_law_early", "_law_place", "_law_at", "_law_who", "_law_one", "_law_other"],11,
 .cons (.assign (.one 1) (.bin .Add (.int 1) (.bin .Mod (.call "_law_cell_at" (.cons (.var 0) (.cons (.int 0) .nil))) (.int 9)))) (
 T_law_12)⟩
noncomputable def fns11:List ((String×String)×Fn):=[(("", "is_place"),zds),(("", "is_tie"),zir),(("Net", "__init__"),zb1),(("Net", "ties"),zdt),(("Net", "beside"),zcw),(("", "mates"),zhy),(("", "told"),zk5),(("", "is_way"),zfD),(("", "turned"),zfC),(("Search", "__init__"),zcd),(("Search", "meeting"),zbq),(("Search", "marked"),zbD),(("Search", "shrink"),zbC),(("Search", "step"),zcc),(("Search", "found"),zbS),(("", "road"),zk6),(("", "better"),zfE),(("", "grown"),zhz),(("", "most"),zk7),(("Kept", "__init__"),zbE),(("Kept", "need_tie"),zaS),(("Kept", "become"),zce),(("Kept", "put"),zb2),(("Kept", "cut"),zb3),(("Kept", "net"),zdu),(("Kept", "pairs"),zcx),(("", "leaving"),zet),(("", "fence"),zhA),(("", "_law_sole"),ze0),(("", "_law_whole"),zcY),(("", "_law_cell_at"),zcb),(("", "_law_near"),zdq),(("", "_law_part"),zdp),(("", "_law_parts"),zcZ),(("", "_law_fenced"),zcu),(("", "_law_alone"),zc0),(("", "_law_told"),zbh),(("", "_law_stands"),zcs),(("", "_law_due"),zcv),(("", "_law_done"),zdr),(("", "_law_goes"),zbi),(("", "_law_places"),zct),(("", "_law_no_size"),zca),(("", "law"),zot)]
noncomputable def zae (c f:String):Option Fn:=fns11.lookup (c,f)
noncomputable def zaj (c f:String):Bool:=(c == "Net" && f == "size")||(c == "Net" && f == "rows")||(c == "Search" && f == "ground")||(c == "Search" && f == "mate")||(c == "Search" && f == "root")||(c == "Search" && f == "back")||(c == "Search" && f == "base")||(c == "Search" && f == "outer")||(c == "Search" && f == "waiting")||(c == "Kept" && f == "now")||(c == "Kept" && f == "best")
end Mine.Internal
end
section
open PySem PySem.W PyProof.Rows
namespace Mine.Internal
noncomputable def tabs11:Tabs:=⟨[("NetError",24),("BadNet",37),("NoPlace",49),("BadPairs",61),("BadWay",73),("TieThere",85),("NoTie",97),("OddRing",109),("Net",154),("Search",232),("Kept",321)],
 [(("", "is_place"),118),(("", "is_tie"),125),(("Net", "__init__"),137),(("Net", "ties"),144),(("Net", "beside"),151),(("", "mates"),163),(("", "told"),168),(("", "is_way"),175),(("", "turned"),182),(("Search", "__init__"),194),(("Search", "meeting"),201),(("Search", "marked"),208),(("Search", "shrink"),215),(("Search", "step"),222),(("Search", "found"),229),(("", "road"),243),(("", "better"),250),(("", "grown"),257),(("", "most"),264),(("Kept", "__init__"),278),(("Kept", "need_tie"),285),(("Kept", "become"),292),(("Kept", "put"),299),(("Kept", "cut"),304),(("Kept", "net"),311),(("Kept", "pairs"),318),(("", "leaving"),330),(("", "fence"),335),(("", "_law_sole"),342),(("", "_law_whole"),349),(("", "_law_cell_at"),356),(("", "_law_near"),361),(("", "_law_part"),368),(("", "_law_parts"),373),(("", "_law_fenced"),378),(("", "_law_alone"),383),(("", "_law_told"),390),(("", "_law_stands"),395),(("", "_law_due"),402),(("", "_law_done"),409),(("", "_law_goes"),416),(("", "_law_places"),423),(("", "_law_no_size"),430),(("", "law"),437)],
 [("Net", "size"),("Net", "rows"),("Search", "ground"),("Search", "mate"),("Search", "root"),("Search", "back"),("Search", "base"),("Search", "outer"),("Search", "waiting"),("Kept", "now"),("Kept", "best")]⟩
theorem znG:∀w os,(endT Challenge.pw_uf010024_11 w 7522 os).map (obsK tabs11 fns11 437 439)=some true:=by
 intro w os
 kernel_rfl
end Mine.Internal
end
namespace Mine.Internal
theorem y00 {a b:Prop} (h:a/\b):a:=h.1
theorem y01 {a b:Prop} (h:a/\b):b:=h.2
theorem y02 {a b c:Prop} (h:(a/\b)/\c):a:=h.1.1
theorem y03 {a b c:Prop} (h:(a/\b)/\c):b:=h.1.2
theorem y04 {a b c:Prop} (h:a/\b/\c):b:=h.2.1
theorem y05 {a b c:Prop} (h:a/\b/\c):c:=h.2.2
theorem y11 {α:Type} {a b:α} (h:a≠b):¬b=a:=h.symm
theorem y12:(40:Nat)<1000000:=by decide
theorem y13:(40:Nat)<=1000000:=by decide
theorem y14:(40:Nat)<=1000:=by decide
theorem y15:(40:Nat)<64:=by decide
theorem y16:(1000:Nat)<1000000:=by decide
theorem y17:(1600:Nat)<1000000:=by decide
theorem y18:(40:Int).toNat<=1000000:=by decide
theorem y19:(1000:Int).toNat<=1000000:=by decide
theorem y20:(40:Int).toNat<=1000:=by decide
theorem y21:(40:Int)<2^31:=by decide
theorem y22:(1600:Nat)<=2000:=by decide
theorem y23:(1000:Nat)<2147483648:=by decide
theorem y26:(1000:Nat)<=1000000:=by decide
theorem y27:-2^31<(0:Int):=by decide
theorem y28:(0:Nat)<2:=by decide
theorem y29:(-1:Int)<0:=by decide
theorem y30:(40:Int).toNat<=40:=by decide
variable {i n:Int}
theorem x01 (h:i<n):i<↑n.toNat:=Int.lt_of_lt_of_le h (Int.self_le_toNat n)
theorem x02 (h:i<n) (h0:0<=i):i.toNat<n.toNat:=(Int.toNat_lt h0).2 (x01 h)
theorem x03 {j:Int} (h:i<j) (h1:j<n) (h0:0<=i):i.toNat<n.toNat:=x02 (Int.lt_trans h h1) h0
theorem x04 {j:Int} (h:i<j) (h1:j<n) (h0:0<=i):j.toNat<n.toNat:=x02 h1 (Int.le_trans h0 (Int.le_of_lt h))
theorem x05 (h0:0<=i):i=↑i.toNat:=(Int.toNat_of_nonneg h0).symm
theorem x06 (h:i<n) (h0:0<=i):↑i.toNat<n:=(Int.toNat_of_nonneg h0).symm▸h
theorem x08 {n:Nat} (h:i<↑n) (h0:0<=i):i.toNat<n:=(Int.toNat_lt h0).2 h
theorem x09 {a b:Int} (h:¬b<a):a<=b:=Int.not_lt.1 h
theorem x10 {a b:Int} (h:¬b<=a):a<b:=Int.not_le.1 h
variable {a b:Nat}
theorem x11 (h:¬b<a):a<=b:=Nat.not_lt.1 h
theorem x13 {i:Nat} (h:↑i<n):i<n.toNat:=Int.lt_toNat.2 h
theorem x14 {i:Nat} (h:i<n.toNat):↑i<n:=Int.lt_toNat.1 h
theorem x15 {i:Nat} (h:i<n.toNat):0+↑i<n:=(Int.zero_add (i:Int)).symm▸Int.lt_toNat.1 h
variable {k:Nat}
theorem x16 {m:Int} (h:n<=m) (h2:m.toNat<=k):n.toNat<=k:=qak (Int.toNat_le_toNat h) h2
theorem x17 (h:n<=40) (h1:1<=n):n<2^31/\-2^31<n:=⟨Int.lt_of_le_of_lt h (by decide),Int.lt_of_lt_of_le (by decide:(-2^31:Int)<1) h1⟩
variable {m:Nat}
theorem x18 (h:k<=m) (h2:m<2147483648):(k:Int)<2^31/\-2^31<(k:Int):=⟨Int.lt_of_lt_of_le (Int.ofNat_lt.2 (Nat.lt_of_le_of_lt h h2)) (by decide),Int.lt_of_lt_of_le (by decide:(-2^31:Int)<0) (Int.natCast_nonneg k)⟩
theorem x19 (h:i<n) (h0:0<=i):0<=i/\i<↑n.toNat:=⟨h0,x01 h⟩
theorem x20 (h:i<n) (h0:0<=i) (h1:n<=40):0<=i/\i<↑(40:Nat):=⟨h0,Int.lt_of_lt_of_le h h1⟩
theorem x21 {a b:Int} (h:a<b):min a b=a:=Int.min_eq_left (Int.le_of_lt h)
theorem x22 {a b:Int} (h:¬a<b):min a b=b:=Int.min_eq_right (Int.not_lt.1 h)
theorem x23 {a b:Int} (h:b<a):min a b=b:=Int.min_eq_right (Int.le_of_lt h)
theorem x24 {a b:Int} (h:a<b):max a b=b:=Int.max_eq_right (Int.le_of_lt h)
theorem x25 {a b:Int} (h:¬a<b):max a b=a:=Int.max_eq_left (Int.not_lt.1 h)
variable {x:Int} {p q:Prop}
theorem x27 {a:Int} (h:0<=a↔p/\x≠x/\q):a<0:=Int.not_le.1 fun e=>(h.1 e).2.1 rfl
theorem x28 {a:Int} (h:0<=a↔p/\q/\x≠x):a<0:=Int.not_le.1 fun e=>(h.1 e).2.2 rfl
theorem x29 {a b:Int} (h:0<=a↔0<=b/\q) (hb:b<0):a<0:=Int.not_le.1 fun e=>Int.not_le.2 hb (h.1 e).1
variable {y:Int}
theorem x30 {a b:Int} (h:0<=a↔0<=b/\q\/x=y) (hb:b<0) (hn:¬x=y):a<0:=Int.not_le.1 fun e=>(h.1 e).elim (fun e=>Int.not_le.2 hb e.1) hn
theorem x31 {a:Int} (h:0<=a↔q/\x≠x\/x=y) (hn:¬x=y):a<0:=Int.not_le.1 fun e=>(h.1 e).elim (fun e=>e.2 rfl) hn
theorem x32 {a b z:Int} (h:0<=a↔0<=b\/x=y\/x=z) (hb:b<0) (hn:¬x=y) (hn':¬x=z):a<0:=Int.not_le.1 fun e=>(h.1 e).elim (Int.not_le.2 hb) fun e=>e.elim hn hn'
theorem x33 {a b c:Int} (h:a<b) (h':b<c):a<c:=Int.lt_trans h h'
theorem x35 {a b c:Int} (h:a<=b) (h':b<=c):a<=c:=Int.le_trans h h'
theorem x37 {a b c:Int} (h:a<b) (h':b<=c):a<c:=Int.lt_of_lt_of_le h h'
theorem x38 {a b c:Int} (h:a<=b) (h':b<c):a<c:=Int.lt_of_le_of_lt h h'
theorem x39 {a b:Int} (h:a<b):a<=b:=Int.le_of_lt h
variable {c:Nat}
theorem x40 (h:a<b) (h':b<c):a<c:=Nat.lt_trans h h'
theorem x42 (h:a<=b) (h':b<=c):a<=c:=qak h h'
theorem x44 (h:a<b) (h':b<=c):a<c:=Nat.lt_of_lt_of_le h h'
theorem x45 (h:a<=b) (h':b<c):a<c:=Nat.lt_of_le_of_lt h h'
theorem x46 (h:a<b):a<=b:=Nat.le_of_lt h
theorem x47 (h:a<b):(a:Int)<b:=Int.ofNat_lt.2 h
theorem x49 {a b:Int} (h:a<b) (h':b<a):p:=absurd (Int.lt_trans h h') (Int.lt_irrefl a)
theorem x50 {a b:Int} (h:a<b) (h':b<=a):p:=absurd h (Int.not_lt.2 h')
theorem x52 (h:a<b) (h':b<=a):p:=absurd h (Nat.not_lt.2 h')
theorem x53 {n:Nat} (h:i<n):i<↑(n+1):=Int.lt_trans h (Int.ofNat_lt.2 (Nat.lt_succ_self n))
theorem x54 {n:Nat} (h:i<↑(n+1)) (h':¬i=n):i<n:=Int.lt_iff_le_and_ne.2 ⟨Int.le_of_lt_add_one h,h'⟩
theorem x55 (h:2<=a):a-1<a:=Nat.sub_lt (Nat.lt_of_lt_of_le (by decide) h) (by decide)
theorem x56 (h:0<a):a-1<a:=Nat.sub_lt h (by decide)
theorem x57 {a b:Int} (h:a<b):¬a=b:=Int.ne_of_lt h
theorem x58 (h:a<=b):a<=b+1:=Nat.le_succ_of_le h
theorem x59 (h:a<=b):a+1<=b+1:=Nat.succ_le_succ h
theorem x61 {a b:Int} (h:a<=b) (h':a≠b):a<b:=Int.lt_iff_le_and_ne.2 ⟨h,h'⟩
theorem x62 {a b:Int} (h:a<=b) (h':b<=a):a=b:=Int.le_antisymm h h'
theorem x63 (h:a<=b) (h':b<=a):a=b:=Nat.le_antisymm h h'
theorem x64 {a b:Int} (h:¬a<b) (h':a≠b):b<a:=Int.lt_iff_le_and_ne.2 ⟨Int.not_lt.1 h,Ne.symm h'⟩
theorem x65 {a b:Int} (h:a=b) (h':0<=b):0<=a:=h▸h'
theorem x66 {a b:Int} (h:a=b) (h':b<0):a<0:=h▸h'
theorem x67 (h:a+b<=c):a<=c:=qak (Nat.le_add_right a b) h
theorem x68 (h:a+b<=c):b<=c:=qak (Nat.le_add_left b a) h
theorem x70 {a:Int} (h:0<=a):¬a<0:=Int.not_lt.2 h
theorem x72 {a b:Int}:¬a<b↔b<=a:=Int.not_lt
theorem x73 {a b:Int}:a<=b\/b<=a:=Int.le_total a b
theorem x75 {j:Int} (h:i<j) (h1:j<n):i<↑n.toNat:=x01 (Int.lt_trans h h1)
theorem x76 {j:Int} (h:i<j) (h0:0<=i):0<=j:=Int.le_trans h0 (Int.le_of_lt h)
theorem x77 (h0:0<=i):↑i.toNat=i:=Int.toNat_of_nonneg h0
theorem x78 {r:Int} (h:r<↑n.toNat) (h0:0<=r):r<n:=Int.toNat_of_nonneg h0▸x14 ((Int.toNat_lt h0).2 h)
theorem x79 (h:i<x) (h0:0<=i) (h1:x<n) (h2:n<=40):0<=x/\x<↑(40:Nat):=x20 h1 (x76 h h0) h2
theorem x80 (h:x<i) (h0:0<=x) (h1:i<n) (h2:n<=40):0<=x/\x<↑(40:Nat):=x20 (Int.lt_trans h h1) h0 h2
variable {j:Nat}
theorem x81 (h:k<=m):min j k<=m:=qak (Nat.min_le_right _ _) h
theorem x82 (h:k<=a) (h':a<m):min j k<m:=Nat.lt_of_le_of_lt (x81 h) h'
theorem x83 {n:Nat}:(n:Int).toNat=n:=rfl
theorem x84 {n:Nat}:((n:Int)+1).toNat=n+1:=rfl
theorem x85 {n:Nat}:(2*(n:Int)).toNat=2*n:=rfl
theorem x86 {n:Nat}:(2*(n:Int)+1).toNat=2*n+1:=rfl
theorem x90 (h:¬i=x) (h':¬i=y):p↔p\/i=x\/i=y:=⟨.inl,fun e=>e.elim id fun e=>e.elim (absurd · h) (absurd · h')⟩
theorem x91 (h:¬i=x) (h':¬i=y):p↔p/\¬i=x/\¬i=y:=⟨fun e=>⟨e,h,h'⟩,fun e=>e.1⟩
theorem x92 (h':p↔q\/i=x\/i=y) (h:i≠y):p↔q\/i=x:=⟨fun e=>(h'.1 e).imp id fun e=>e.elim id (absurd · h),fun e=>h'.2 (e.imp id .inl)⟩
theorem x93 (h':p↔q/\i≠x\/i=y) (h:i≠x) (h2:i≠y):p↔q:=⟨fun e=>(h'.1 e).elim And.left (absurd · h2),fun e=>h'.2 (.inl ⟨e,h⟩)⟩
theorem x94 (h:p↔q/\i≠x/\i≠y) (h1:i=x->q) (h2:i=y->q):q↔p\/i=x\/i=y:=⟨fun e=>if a:i=x then .inr (.inl a) else if b:i=y then .inr (.inr b) else .inl (h.2 ⟨e,a,b⟩),fun e=>e.elim (fun e=>(h.1 e).1) fun e=>e.elim h1 h2⟩
theorem x95 {a b z w:Int} (h:0<=a↔0<=b\/x=y\/x=z) (hb:0<=b↔p/\w≠w/\q) (hn:¬x=y) (hn':¬x=z):a<0:=x32 h (x27 hb) hn hn'
theorem x96 {a b:Int} (h:0<=a↔0<=b/\p/\q) (ha:a<0) (hp:p) (hq:q):b<0:=Int.not_le.1 fun e=>Int.not_le.2 ha (h.2 ⟨e,hp,hq⟩)
theorem x97 {a b:Int} (h:0<=a↔0<=b/\p/\q) (ha:¬b<0) (hp:p) (hq:q):0<=a:=h.2 ⟨Int.not_lt.1 ha,hp,hq⟩
theorem x98 (h:x<↑(m+1)) (h':x≠↑m) (h0:0<=x):0<=x/\x<↑m:=⟨h0,x54 h h'⟩
variable {d:Int}
theorem x99 {a b c:Int} (h:a=c\/a=d\/b=c\/b=d):c=a\/c=b\/d=a\/d=b:=h.elim (fun e=>.inl e.symm) fun h=>h.elim (fun e=>.inr (.inr (.inl e.symm))) fun h=>h.elim (fun e=>.inr (.inl e.symm)) fun e=>.inr (.inr (.inr e.symm))
theorem v00 {a b c:Int} (h:a=c\/a=d\/b=c\/b=d):(c=a\/c=b)\/d=a\/d=b:=or_assoc.2 (x99 h)
theorem v03 {a b c:Int} (h:a<c\/a=c/\b<d) (h':c<a\/c=a/\d<b):p:=h.elim (fun u=>h'.elim (fun v=>absurd (Int.lt_trans u v) (Int.lt_irrefl _)) fun v=>absurd u (v.1▸Int.lt_irrefl _)) fun u=>h'.elim (fun v=>absurd v (u.1▸Int.lt_irrefl _)) fun v=>absurd (Int.lt_trans u.2 v.2) (Int.lt_irrefl _)
theorem v05 {a b:Int} (h:¬(0<=a/\0<=b)) (h':¬a<0):b<0:=Int.not_le.1 fun e=>h ⟨Int.not_lt.1 h',e⟩
theorem w00 (h:y<=1700) (h0:0<=y):y.natAbs<2^32:=Int.ofNat_lt.1 (by rw [Int.ofNat_natAbs_of_nonneg h0];exact Int.lt_of_le_of_lt h (by decide))
theorem v06 (h:y<40) (h0:0<=y):y.natAbs<2^32:=w00 (Int.le_of_lt (Int.lt_trans h (by decide))) h0
theorem v10 {k a:Int} (h0:0<=a) (h:1<=k):1<=k+a:=Int.le_trans h (Int.le_add_of_nonneg_right h0)
theorem v14 (h:a<b):a-1<b:=Nat.lt_of_le_of_lt (Nat.sub_le a 1) h
theorem v15 (h:a≠0):a-1+1=a:=Nat.sub_one_add_one h
theorem v16 (h:0<a):a=a-1+1:=(Nat.sub_one_add_one (Nat.ne_of_gt h)).symm
theorem v17 (h:a%2=0):(a+1)%2=1:=by rw [Nat.add_mod,h]
theorem v18 (h:a%2=1):(a+1)%2=0:=by rw [Nat.add_mod,h]
theorem v19 (h:¬(a+1)%2=1):a%2=1:=(Nat.mod_two_eq_zero_or_one a).resolve_left fun e=>h (v17 e)
theorem v20 (h:¬a%2=1) (h':a≠0):(a-1)%2=1:=v19 ((Nat.sub_one_add_one h').symm▸h)
theorem v21:a%2=0↔(a+1)%2=1:=⟨v17,fun e=>(Nat.mod_two_eq_zero_or_one a).resolve_right fun h=>absurd ((v18 h).symm.trans e) (by decide)⟩
theorem v22 (h:(a+1+1)%2=0):a%2=0:=(Nat.add_mod_right a 2).symm.trans h
theorem v23 (h:a%2=1):(a+1+1)%2=1:=(Nat.add_mod_right a 2).trans h
theorem v24:(2*a+1)%2=1:=v17 (Nat.mul_mod_right 2 a)
theorem v25:2*a%2=0:=Nat.mul_mod_right 2 a
theorem v26 (h:a<b) (h':¬a=b-1):a+1<b:=Nat.lt_of_le_of_ne h fun e=>h' (by rw [←e];rfl)
theorem v27 (h:a+1+1<b):a<b:=Nat.lt_of_succ_lt (Nat.lt_of_succ_lt h)
theorem v28 (h:a+2<b):a+1<b:=Nat.lt_of_succ_lt h
theorem v29:a/2+1=(a+1+1)/2:=(Nat.add_div_right a (by decide)).symm
theorem v30:a%2=1↔((a%2:Nat):Int)=1:=(Int.ofNat_inj (m:=a%2) (n:=1)).symm
theorem v31:(a:Int)%2=1↔a%2=1:=Int.ofNat_inj (m:=a%2) (n:=1)
theorem v32 (h:a%2=0):¬(a:Int)%2=1:=fun e=>absurd (v31.1 e) (by rw [h];decide)
theorem v33 (h:2<=a):¬(a:Int)<2:=Int.not_lt.2 (Int.ofNat_le.2 h)
theorem v37 (h:i<n) (h0:0<=i):0+↑i.toNat<n:=(Int.zero_add (i.toNat:Int)).symm▸x06 h h0
theorem v38 {i:Nat} (h:i<n.toNat):0<=(i:Int)/\(i:Int)<n:=⟨Int.natCast_nonneg i,x14 h⟩
theorem v39 {i:Nat} {j:Int} (h:↑i=j) (h':i<n.toNat):0<=j/\j<n:=h▸v38 h'
theorem v40 {i:Nat} {j:Int} (h:j=0+↑i) (h':0+↑i<n):0<=j/\j<n:=⟨h▸(Int.zero_add (i:Int)).symm▸Int.natCast_nonneg i,h▸h'⟩
theorem v41 {i:Nat} {j:Int} (h:j=0+↑i) (h':0+↑i<n):j<n:=h▸h'
theorem v44 {i:Nat} (h:k<=i) (h':(i:Int)<n) (h2:n<=40):k<1000000:=Nat.lt_trans (Int.ofNat_lt.1 (Int.lt_of_le_of_lt (Int.ofNat_le.2 h) (Int.lt_of_lt_of_le h' h2)):k<40) (by decide)
theorem v46 (h0:0<=i) (h:i.toNat=j):↑j=i:=h▸Int.toNat_of_nonneg h0
theorem v47 (h:¬i.toNat=j):¬↑j=i:=fun e=>h (e▸rfl)
theorem v48 (h0:0<=i) (h:j=i.toNat):↑j=i:=h▸Int.toNat_of_nonneg h0
theorem v50 {m:Int} (h:k<=n.toNat) (h2:n<=m) (h3:m.toNat<=40):k<=40:=qak h (x16 h2 h3)
theorem v51 (h:a<b+1) (h':c<a):c<b:=Nat.lt_of_lt_of_le h' (Nat.le_of_lt_succ h)
theorem v52 {c:Nat} (h:a-1<=b):a<=b+1:=Nat.le_add_of_sub_le h
theorem v54 {a b:Int} (h:a = -1) (h':0<=b) (h2:a=b):p:=absurd (h2▸h':0<=a) (by rw [h];decide)
theorem v55 {a:Int} (h:a<0) (h':0<=a):p:=absurd h' (Int.not_le.2 h)
theorem v58 (h:a+(b+1)<=c):a<c:=Nat.lt_of_lt_of_le (Nat.lt_add_of_pos_right (Nat.succ_pos b)) h
theorem v59 (h:a+(b+1)<=c):a+b<=c:=Nat.le_of_succ_le h
theorem v60 (h:a+(b+1)<=c):a+1+b<=c:=(Nat.add_right_comm a 1 b).symm▸h
theorem v63 (h:x=↑a) (h':y=↑b) (h2:a<b):x<y:=by rw [h,h'];exact Int.ofNat_lt.2 h2
theorem w03 (h:a=b-1) (h1:0<b) (h2:a%2=0):(b+1)%2=0:=by rw [v16 h1,←h];exact v18 (v17 h2)
theorem w04 {n:Nat} (h:a=b-1) (h':b+1<=n+1):a<=n:=h▸qak (Nat.sub_le b 1) (Nat.le_of_succ_le_succ h')
theorem w06 (h:a%2=1):0<a:=Nat.pos_of_ne_zero fun e=>by rw [e] at h;exact absurd h (by decide)
theorem w07 (h:a%2=1):a+1+1-1=a-1+1+1:=congrArg (· + 1) (v16 (w06 h))
theorem w13 {j:Int} (h1:j<n) (h:i<j) (h0:0<=i):↑i.toNat<n:=x06 (Int.lt_trans h h1) h0
theorem w14 (h:a-b=c+1):b<a:=Nat.lt_of_sub_pos (h▸Nat.succ_pos c)
theorem w16 {a b:Int} (h:0<=a/\a<n) (h':0<=b/\b<n) (hn:a≠b):0<=min a b/\min a b<max a b/\max a b<n:=if h1:a<b then by rw [x21 h1,x24 h1];exact ⟨h.1,h1,h'.2⟩ else by rw [x22 h1,x25 h1];exact ⟨h'.1,x64 h1 hn,h.2⟩
variable {f:Nat}
theorem w17 {K:Nat} (h:c<=1) (h1:f%2=0) (h2:K=c+f):c=K%2:=by rw [h2,Nat.add_mod,h1,Nat.add_zero,Nat.mod_mod,Nat.mod_eq_of_lt (Nat.lt_succ_of_le h)]
theorem w18 (h:(a-1)%2=0) (h':a%2=0) (h1:0<a):p:=absurd (h'.symm.trans ((congrArg (· % 2) (v16 h1)).trans (v17 h))) (by decide)
variable {r:Nat}
theorem w20 {i:Nat} (h:j-r=0) (h':¬j<r) (h1:r=i):j=i:=h1▸Nat.le_antisymm (Nat.le_of_sub_eq_zero h) (Nat.not_lt.1 h')
theorem w23 (h:m<=40) (h':k<=40):m+min j k<1000000:=Nat.lt_of_le_of_lt (Nat.add_le_add h (x81 h')) (by decide)
theorem w24 {lo hi:Int} (h:lo+↑k<hi):k<(hi-lo).toNat:=x13 (Int.lt_sub_left_of_add_lt h)
theorem w25 {lo hi:Int} (h:¬lo+↑k<hi):hi-lo<=↑k:=Int.sub_left_le_of_le_add (Int.not_lt.1 h)
variable {l:Nat}
theorem w26 (h:l<=k-1) (h':0<k):l+1<=k:=Nat.add_le_of_le_sub h' h
theorem w28 {q i:Nat} (h0:q<=40) (h:k<=i) (h':(i:Int)<n) (h2:n<=40):q+k<1000000:=Nat.lt_of_lt_of_le (Nat.add_lt_add_of_le_of_lt h0 (Int.ofNat_lt.1 (Int.lt_of_le_of_lt (Int.ofNat_le.2 h) (Int.lt_of_lt_of_le h' h2)):k<40)) (by decide)
variable {W:Nat}
theorem w29 (h:W%2=0) (h':2*j<W):2*j+1<W:=Nat.lt_of_le_of_ne h' fun e=>absurd (h.symm.trans (e▸v24)) (by decide)
theorem w30 (h:j<W/2):2*j<W:=Nat.lt_of_lt_of_le (Nat.mul_lt_mul_of_pos_left h (by decide)) (Nat.mul_div_le W 2)
theorem w31 (h:W%2=0):(W:Int)=2*↑(W/2):=congrArg Int.ofNat (Nat.mul_div_cancel' (Nat.dvd_of_mod_eq_zero h)).symm
theorem w32 (h:W<=m) (h2:m<2147483648):(W:Int)-1<2^31/\-2^31<(W:Int)-1:=⟨Int.lt_trans (Int.sub_lt_self _ (by decide)) (x18 h h2).1,Int.lt_of_lt_of_le (by decide:(-2^31:Int)<0-1) (Int.sub_le_sub_right (Int.natCast_nonneg W) 1)⟩
variable {t r0:Nat}
theorem w33 (h:r<=r0+2*t) (h':W+t<=40):r<=r0+80:=qak h (Nat.add_le_add_left (Nat.mul_le_mul_left 2 (qak (Nat.le_add_left t W) h')) r0)
theorem w34 (h:r<=r0+2*t) (h':W+t<=40) (h1:r0<=1000):r+1<1000000:=Nat.lt_of_le_of_lt (Nat.add_le_add_right (qak (w33 h h') (Nat.add_le_add_right h1 80)) 1) (by decide)
theorem w35 (h:r<=r0+2*t) (h':W+t<=40) (h1:r0<=1000):r<1000000:=Nat.lt_of_succ_lt (w34 h h' h1)
theorem w36 {a b c:Int} (h:(a=c\/a=d)\/b=c\/b=d):c=a\/c=b\/d=a\/d=b:=x99 (or_assoc.1 h)
theorem w37 (h':c=a+1) (h:a=b+1):c=b+2:=h'.trans (congrArg (· + 1) h)
theorem w38 (h:0<=y):0<=y↔p\/x=x\/q:=⟨fun J=>.inr (.inl rfl),fun J=>h⟩
theorem w39 (h:0<=y):0<=y↔p\/q\/x=x:=⟨fun J=>.inr (.inr rfl),fun J=>h⟩
theorem w40 {a b:Int} (h:a=b):(0:Int) <= -1↔p/\q/\¬a=b:=⟨fun e=>absurd e (by decide),fun e=>absurd h e.2.2⟩
theorem w41 {a:Int}:(0:Int) <= -1↔p/\¬a=a/\q:=⟨fun e=>absurd e (by decide),fun e=>absurd rfl e.2.1⟩
theorem w42 {a:Int} (h:0<=a↔q/\x≠x\/x=y) (hn:¬x=y):¬0<=a:=Int.not_le.2 (x31 h hn)
theorem w43 {a:Int} {r:Prop} (h:0<=a↔p/\x≠x/\q) (h':0<=a):r:=v55 (x27 h) h'
theorem w44 {i:Nat} (h:a<=40*i) (h':b<=40):a+b<=40*(i+1):=Nat.add_le_add h h'
theorem w45 (h:k<=40):2*min j k<=1000:=qak (Nat.mul_le_mul_left 2 (x81 h)) (by decide)
theorem w46 {a b c d:Prop} (h:¬(a\/b\/c\/d)):¬b/\¬d:=⟨fun e=>h (.inr (.inl e)),fun e=>h (.inr (.inr (.inr e)))⟩
theorem w47 {a b c d:Prop} (h:¬(a\/b\/c\/d)):¬a/\¬c:=⟨fun e=>h (.inl e),fun e=>h (.inr (.inr (.inl e)))⟩
theorem w48 (h:a<=b):a+0<=b+c:=Nat.le_add_right_of_le h
theorem w49 (h:a+a+1<=b+b):a<b:=Nat.lt_of_not_le fun e=>absurd (qak h (Nat.add_le_add e e)) (Nat.not_succ_le_self _)
theorem w53 {d:Nat} (h:a<=b) (h':b<c) (h2:c<=d):a<d:=Nat.lt_of_le_of_lt h (Nat.lt_of_lt_of_le h' h2)
theorem w54 {a b c:Int} (h:a=b) (h':c<b) (h0:0<=c):0<=a:=h▸x76 h' h0
theorem w55 (h:a=b+1) (h':a<=c):b<c:=(h▸h':b+1<=c)
variable {s:Nat}
theorem w56 {y:Nat} (h:s<=t+1) (h':y+t<=40):s<1000000:=Nat.lt_of_le_of_lt (qak h (Nat.succ_le_succ (x68 h'))) (by decide)
theorem w57 {y z:Nat} (h:y+t<=m) (h':z<y):z+(t+1)<=m:=qak (Nat.add_lt_add_right h' t) h
theorem w58 {a b:Int} (h:a<b):¬b=a:=Int.ne_of_gt h
theorem w59 {a:Int} {r:Prop} (h:(0<=i/\q)/\a=i/\r) (h':a<0):p:=v55 h' (h.2.1▸h.1.1)
theorem w61 (h:(j:Int)<(k:Int)-1):j+1<k:=Int.ofNat_lt.1 (Int.add_lt_of_lt_sub_right h)
theorem w62 (h:a<=m) (h':a=b+c):a<=m/\b+c<=m:=⟨h,h'▸h⟩
theorem w63 (h:p/\a+c<=40):c<1000000:=Nat.lt_of_le_of_lt (x68 h.2) (by decide)
theorem w64 {u i:Nat} (h:u<min i k):u<i:=Nat.lt_of_lt_of_le h (Nat.min_le_left i k)
theorem w65 {u i:Nat} (h:u<min i k) (h':u=i):p:=absurd (w64 h) (h'▸Nat.lt_irrefl u)
theorem w66 {a b:Int} (h:0<=a->0<=b) (h':b<0):a<0:=Int.not_le.1 fun e=>Int.not_le.2 h' (h e)
theorem w67 {i n:Nat} (h:i<n):0<=(i:Int)/\(i:Int)<↑n:=⟨Int.natCast_nonneg i,Int.ofNat_lt.2 h⟩
theorem w68 (h:i=0+↑j):0<=i:=h▸(Int.zero_add (j:Int)).symm▸Int.natCast_nonneg j
theorem w69 (h:a<=a-1) (h':0<a):p:=absurd (x56 h') (Nat.not_lt.2 h)
theorem w70 (h:a%2=1):a=a-1+1:=v16 (w06 h)
theorem y34:(2000:Nat)<1000000:=by decide
theorem y35:(1600:Nat)<=1000000:=by decide
theorem w76 (h:a<=m) (h2:m<2147483648):(a:Int)<2^31/\-2^31<(a:Int)/\(0:Int)<2^31/\-2^31<(0:Int)/\(0:Int)<2/\(2:Int)<1000000000:=⟨(x18 h h2).1,(x18 h h2).2,by decide⟩
theorem w77 {n:Nat} (h:i<0):(i+↑n).toNat=n-i.natAbs:=by rw [←Int.toNat_sub,Int.ofNat_natAbs_of_nonpos (Int.le_of_lt h),Int.sub_neg,Int.add_comm]
theorem w78:((2*(s:Int)-0+2-1)/2).toNat=s:=by rw [Int.sub_zero,Int.add_sub_assoc];exact Nat.mul_add_div (by decide) s 1
theorem w79 (h:a+b<=40):b<1000000:=Nat.lt_of_le_of_lt (x68 h) (by decide)
theorem w81 {a:Int} (h:1<=a):-2^31<a:=Int.lt_of_lt_of_le (by decide:(-2^31:Int)<1) h
theorem w82 (h:a<=b) (h':b<c):a+1<=c:=Nat.lt_of_le_of_lt h h'
theorem w83 {a:Int} (h:0<=a↔p\/y=y):0<=a:=h.2 (.inr rfl)
theorem w84 {a:Int} (h:0<=a↔p\/q\/y=y):0<=a:=h.2 (.inr (.inr rfl))
theorem w85:min a b<=a:=Nat.min_le_left a b
theorem w86 (h:¬a<b):¬(a:Int)<b:=fun e=>h (Int.ofNat_lt.1 e)
theorem w88 (h:¬a<=b):2*b<2*a:=Nat.mul_lt_mul_of_pos_left (Nat.not_le.1 h) (by decide)
theorem w89 {n:Nat} (h:a=n) (h':n<=1000):a<=1000000:=h▸qak h' (by decide)
theorem w90 {d n:Nat} (h:k+(d+1)=n):k+1+d=n:=(Nat.add_right_comm k 1 d).trans h
theorem w91 (h:a%2=1):2<=a+1:=Nat.succ_le_succ (w06 h)
theorem w93 (h:a<=40):2*a+1<1000000:=Nat.lt_of_le_of_lt (Nat.add_le_add_right (Nat.mul_le_mul_left 2 h) 1) (by decide)
theorem w95 (h:n<=40):n<40+1:=Int.lt_add_one_of_le h
theorem w96 (h:(j:Int)<(k:Int)-1):j<k:=Nat.lt_of_succ_lt (w61 h)
theorem u01 {a:Int} (h:a<1000000000) (h0:0<a):a.natAbs<1073741824:=Int.ofNat_lt.1 (by rw [Int.ofNat_natAbs_of_nonneg (Int.le_of_lt h0)];exact Int.lt_trans h (by decide))
theorem u02 {n i:Nat} (h:n-i=k+1):n-(i+1)=k:=by rw [Nat.sub_add_eq,h];rfl
theorem u03 {n i:Nat} (h:i<n):n-(i+1)<n-i:=Nat.sub_lt_sub_left h (Nat.lt_succ_self i)
theorem u04 (h:a<=b):a+(b-a)=b:=Nat.add_sub_cancel' h
theorem u05 {n i:Nat} (h:n+1<=i):i-n=i-(n+1)+1:=v16 (Nat.sub_pos_of_lt h)
theorem u06 {n:Nat} (h:a=n+1):a-1=n:=congrArg (· - 1) h
theorem u07 (h:a=c+1) (h':a=b):b-1=c:=congrArg (· - 1) (h'.symm.trans h)
theorem u08 {i:Nat}:j+(i+1)-i=j+1:=by rw [←Nat.add_assoc,Nat.add_right_comm];exact Nat.add_sub_cancel _ _
theorem u09 {i:Nat} (h:m<i):i=i-1+1:=v16 (Nat.zero_lt_of_lt h)
variable {lo hi:Nat}
theorem u12 (h:lo<hi):lo<=(lo+hi)/2/\(lo+hi)/2<hi:=⟨(Nat.le_div_iff_mul_le (by decide)).2 (Nat.mul_two lo▸Nat.add_le_add_left (Nat.le_of_lt h) lo),Nat.div_lt_of_lt_mul (Nat.two_mul hi▸Nat.add_lt_add_right h hi)⟩
theorem u13 (h:hi-lo<=f+1) (h':lo<hi):hi-((lo+hi)/2+1)<=f:=Nat.pred_le_pred (qak (Nat.sub_le_sub_left (u12 h').1 hi) h)
theorem u14 (h:hi-lo<=f+1) (h':lo<hi):(lo+hi)/2-lo<=f:=Nat.le_of_lt_succ (Nat.lt_of_lt_of_le (Nat.sub_lt_sub_right (u12 h').1 (u12 h').2) h)
theorem u15 (h':lo<hi):lo<=(lo+hi)/2:=(u12 h').1
theorem u16 (h':lo<hi):(lo+hi)/2+1<=hi:=(u12 h').2
theorem u17 {n:Nat} (h':lo<hi) (h:hi<=n):(lo+hi)/2<n:=Nat.lt_of_lt_of_le (u12 h').2 h
theorem u18 (h0:0<=y):y+1=↑(y+1).toNat:=x05 (Int.add_nonneg h0 (by decide))
theorem u19 (h:x<=0):0=(x.toNat:Int):=by rw [Int.toNat_of_nonpos h];rfl
theorem u20 (h:x<1):x<=0:=Int.le_of_lt_add_one h
theorem u21 {n i:Nat} (h:n-i=0) (h':i<=n):i=n:=Nat.le_antisymm h' (Nat.le_of_sub_eq_zero h)
theorem u22 {n i:Nat} (h:n-i<=0) (h':i<=n):i=n:=u21 (Nat.le_zero.1 h) h'
theorem u23 {n:Nat} (h:i.toNat<n) (h0:0<=i):i<↑n:=(Int.toNat_lt h0).1 h
theorem u24 {n:Nat} (h:i.toNat<n) (h0:0<=i):0<=i/\i<↑n:=⟨h0,u23 h h0⟩
theorem u27 {L:Nat} {m:Int} (h:L=7) (h1:m<7) (h0:0<=m):m.toNat<L:=h▸(Int.toNat_lt h0).2 h1
theorem u28 (h:¬l>=r):(l+r)/2<r:=(u12 (Nat.lt_of_not_le h)).2
theorem u29 (h:¬l>=r):l<=(l+r)/2:=(u12 (Nat.lt_of_not_le h)).1
theorem u30 {i:Nat} (h:(i:Int)<(a:Int)) (h':a=b):i<b:=h'▸Int.ofNat_lt.1 h
theorem u31 {i n:Nat} (h:n<=1000):min i n+1<4096:=Nat.lt_of_le_of_lt (Nat.succ_le_succ (x81 h)) (by decide)
theorem u32 {i n:Nat} (h:j<min i n):j<n:=Nat.lt_of_lt_of_le h (Nat.min_le_right i n)
theorem u33 {i:Nat} (h':b=a) (h:i<a):i<b:=h'▸h
theorem u35 (h:x=↑j):x<↑(j+1):=h▸Int.lt_add_one_of_le (Int.le_refl _)
theorem u36 (h:a=b) (h':b<c):a<c:=h▸h'
theorem u37 (h':a=b) (h:a<=c):b<=c:=h'▸h
theorem u42 {M:Nat} (h:1<=m/\m<=1+M):m+1+(M+2-(m+1))<=M+2:=Nat.le_of_eq (Nat.add_sub_cancel' (Nat.succ_le_succ (Nat.add_comm 1 M▸h.2)))
theorem u43 {m' M:Nat} (h:1<=m/\m<=1+M) (h':m<=m'/\m'<=m+(M+2-(m+1))):m'<=M+1:=Nat.le_of_succ_le_succ (qak (Nat.succ_le_succ h'.2) (Nat.succ_add m _▸u42 h))
theorem u45 (h:a=b):b<=a:=Nat.le_of_eq h.symm
theorem u46 (h:b=c+2) (h1:a<=b) (h2:a%2=0) (h3:b%2=0) (h4:¬a=b):a<=c:=by
 subst h;exact Nat.le_of_lt_succ (Nat.lt_of_le_of_ne (Nat.le_of_lt_succ (Nat.lt_of_le_of_ne h1 h4)) fun e=>absurd (h2.symm.trans ((congrArg (· % 2) e).trans (v17 (v22 h3)))) (by decide))
theorem u47 {L:Nat} (h:a+40*(k+1)<9000) (h':L=9000):a+16<L:=h'▸Nat.lt_of_le_of_lt (Nat.add_le_add_left (qak (by decide:16<=40*1) (Nat.mul_le_mul_left 40 (Nat.succ_le_succ (Nat.zero_le k)))) a) h
theorem u49 (h:a+b+10<9000):a+3+b<9000:=Nat.lt_of_le_of_lt (by rw [Nat.add_right_comm];exact Nat.add_le_add_left (by decide) (a+b)) h
theorem u50 (h:a+b+1<c):a+1+b<c:=(Nat.add_right_comm a 1 b).symm▸h
theorem u51 (h:a+(b+1)<c):a+1+b<c:=(Nat.add_right_comm a 1 b).symm▸h
theorem u52 (h:a+b<c):a<c:=Nat.lt_of_le_of_lt (Nat.le_add_right a b) h
theorem u53 {d:Nat} (h:a+b+c<d):a<d:=u52 (u52 h)
theorem u54 (h:a+40*(k+1)<9000):a+40*k+10<9000:=Nat.lt_of_le_of_lt (Nat.add_le_add_left (by decide:10<=40) (a+40*k)) (Nat.add_assoc a (40*k) 40▸h)
theorem u55 {L:Nat} (h:a+16<L):a+8<L:=Nat.lt_of_le_of_lt (Nat.add_le_add_left (by decide:8<=16) a) h
theorem u56 {x y:Nat} (h:a+b<=s) (h1:a=x) (h2:b=y):x+y<=s:=h1▸h2▸h
theorem u57 (h:a=t+1) (h':a=b):t<b:=h'▸h▸Nat.lt_succ_self t
theorem u60 {d:Nat} (h2:c=b+1) (h1:b=a) (h:a+1<d):c<d:=by rw [h2,h1];exact h
theorem u61 {i:Nat} (h:i+b<c):b<c:=Nat.lt_of_le_of_lt (Nat.le_add_left b i) h
theorem u62 {n:Nat} (h:m<n+(f+1)):m<n+1+f:=(Nat.add_right_comm n 1 f).symm▸h
theorem u63 {n:Nat} (h:p/\m<=n+1+f):m<=n+(f+1):=Nat.add_right_comm n 1 f▸h.2
theorem u64 (h:r<=l+(f+1)) (h':l<=c):r<=c+1+f:=qak h ((Nat.add_right_comm c 1 f).symm▸Nat.add_le_add_right h' (f+1))
theorem u65 {v:Nat} (h:¬m<j) (h':m<v):j<=v:=qak (Nat.not_lt.1 h) (Nat.le_of_lt h')
theorem u66 {x y:Nat} (h:y<=x+1) (h':x<s):y<=s:=qak h h'
theorem u67 (h':a=b) (h:a<c):b<c:=h'▸h
theorem u68 {i:Nat} (h:i<m+1) (h':i>=m):i=m:=Nat.le_antisymm (Nat.le_of_lt_succ h) h'
theorem u70 (h:f+(r+1)=l) (h':l<=40):f<1000000:=Nat.lt_of_le_of_lt (qak (Nat.le_add_right f (r+1)) (h▸h')) (by decide)
theorem u71 (h:f+(r+1)=l) (h':l<=40):f+1<1000000:=Nat.lt_of_le_of_lt (qak (Nat.add_le_add_left (Nat.succ_le_succ (Nat.zero_le r)) f) (h▸h')) (by decide)
theorem u72 {a b c:Int} (h:y=a\/y=b) (h1:c=y\/d=y) (h2:¬(c=a\/c=b\/d=a\/d=b)):q:=absurd (h1.elim (fun e=>h.elim (fun u=>.inl (e.trans u)) fun u=>.inr (.inl (e.trans u))) fun e=>h.elim (fun u=>.inr (.inr (.inl (e.trans u)))) fun u=>.inr (.inr (.inr (e.trans u)))) h2
theorem u73 {n:Nat} (h:¬0<=i) (h':-↑n<=i):0<=i+↑n/\i+↑n<↑n:=⟨Int.add_left_neg (n:Int)▸Int.add_le_add_right h' n,Int.lt_of_lt_of_le (Int.add_lt_add_right (Int.not_le.1 h) n) (Int.le_of_eq (Int.zero_add n))⟩
theorem u74 {n:Nat} (h:¬0<=i) (h':-↑n<=i):(i+↑n).toNat<n:=(Int.toNat_lt (u73 h h').1).2 (u73 h h').2
theorem u75 {a b m:Int} (h:a=i/\m=b\/b=i/\m=a) (h':0<=a/\a<b/\b<n) (hm:m<0):q:=h.elim (fun e=>v55 hm (e.2▸x76 h'.2.1 h'.1)) fun e=>v55 hm (e.2▸h'.1)
theorem u76 {m:Int} (h:m+↑k=↑a) (h':a=b):m=↑b-↑k:=h'▸h▸(Int.add_sub_cancel m k).symm
theorem u77 {r1 r2:Nat} (h2:r2<=r1+1) (h1:r1<=r+1) (h:r<=r0+2*t):r2<=r0+2*(t+1):=qak h2 (Nat.succ_le_succ (qak h1 (Nat.succ_le_succ h)))
theorem u78 (h:a+2*l=m) (h':b+2=a):b+2*(l+1)=m:=by rw [←h,←h',Nat.add_right_comm];rfl
end Mine.Internal
open Mine.Internal
local macro_rules | `(tactic| lia) => do
 let g (t : Lean.TSyntax `tactic) (s : String) := (s.splitOn " ").toArray.mapM fun s => `(Lean.Parser.Tactic.tacticSeq| apply $(Lean.mkIdent s.toName) <;> $t:tactic; done)
 let a ← g (← `(tactic| assumption)) "y00 y01 y02 y03 y04 y05 y11 y12 y13 y14 y15 y16 y17 y18 y19 y20 y21 y22 y23 y26 y27 y28 y29 y30 y34 y35"
 let f ← `(tactic| first | assumption $[| $a:tacticSeq]*)
 let b ← g f "x01 x02 x03 x04 x05 x06 x08 x09 x10 x11 x13 x14 x15 x16 x17 x18 x19 x20 x21 x22 x23 x24 x25 x27 x28 x29 x30 x31 x32 x33 x35 x37 x38 x39 x40 x42 x44 x45 x46 x47 x49 x50 x52 x53 x54 x55 x56 x57 x58 x59 x61 x62 x63 x64 x65 x66 x67 x68 x70 x72 x73 x75 x76 x77 x78 x79 x80 x81 x82 x83 x84 x85 x86 x90 x91 x92 x93 x94 x95 x96 x97 x98 x99 v00 v03 v05 w00 v06 v10 v14 v15 v16 v17 v18 v19 v20 v21 v22 v23 v24 v25 v26 v27 v28 v29 v30 v31 v32 v33 v37 v38 v39 v40 v41 v44 v46 v47 v48 v50 v51 v52 v54 v55 v58 v59 v60 v63 w03 w04 w06 w07 w13 w14 w16 w17 w18 w20 w23 w24 w25 w26 w28 w29 w30 w31 w32 w33 w34 w35 w36 w37 w38 w39 w40 w41 w42 w43 w44 w45 w46 w47 w48 w49 w53 w54 w55 w56 w57 w58 w59 w61 w62 w63 w64 w65 w66 w67 w68 w69 w70 w76 w77 w78 w79 w81 w82 w83 w84 w85 w86 w88 w89 w90 w91 w93 w95 w96 u01 u02 u03 u04 u05 u06 u07 u08 u09 u12 u13 u14 u15 u16 u17 u18 u19 u20 u21 u22 u23 u24 u27 u28 u29 u30 u31 u32 u33 u35 u36 u37 u42 u43 u45 u46 u47 u49 u50 u51 u52 u53 u54 u55 u56 u57 u60 u61 u62 u63 u64 u65 u66 u67 u68 u70 u71 u72 u73 u74 u75 u76 u77 u78"
 `(tactic| with_reducible first | $f:tactic $[| $b:tacticSeq]*)
local macro_rules | `(tactic| get_elem_tactic_extensible) => `(tactic| lia)
section
namespace Mine.Internal
open PySem
section
variable {af:Calls} {md:Bool} {bs:List (String×Nat)} {elt:Ex} {t:Tg} {cond:ExO} {ad:Loc} {aa:Store} {Q:V->Store->Prop} {K:List V->(Store->Prop)->Store->Prop} {X:XP}
theorem zit:wpE af md (.none) ad aa Q X=(Q .none aa):=rfl
theorem E_tt:wpE af md (.tt) ad aa Q X=(Q (.bool true) aa):=rfl
theorem E_ff:wpE af md (.ff) ad aa Q X=(Q (.bool false) aa):=rfl
theorem zmD {i:Int}:wpE af md (.int i) ad aa Q X=(Q (.int i) aa):=rfl
theorem zmB {s:String}:wpE af md (.str s) ad aa Q X=(Q (.str (Str.ofString s)) aa):=rfl
variable {i:Nat}
theorem zmA:wpE af md (.var i) ad aa Q X=(zam (ad.get i) fun v=>Q v aa):=rfl
theorem ziA {x:String}:wpE af md (.glob x) ad aa Q X=(zam (zkx x) fun i=>Q (.int i) aa):=rfl
variable {a b:Ex}
theorem zmF {op:Operator}:wpE af md (.bin op a b) ad aa Q X=(wpE af md a ad aa (fun u ae=>wpE af md b ad ae (fun v ah=>binV op u v ah Q) X) X):=rfl
theorem zmC:wpE af md (.neg a) ad aa Q X=(wpE af md a ad aa (fun u ae=>zbt u fun i=>Q (.int (-i)) ae) X):=rfl
theorem zk8:wpE af md (.not a) ad aa Q X=(wpE af md a ad aa (fun u ae=>zam (truthy ae u) fun b=>Q (.bool (!b)) ae) X):=rfl
theorem zk9 {op:CmpOp}:wpE af md (.cmp op a b) ad aa Q X=(wpE af md a ad aa (fun u ae=>wpE af md b ad ae (fun v ah=>zam (cmpV ah op u v) fun r=>Q (.bool r) ah) X) X):=rfl
theorem zgJ {o₁ o₂:CmpOp} {c:Ex}:wpE af md (.cmp2 o₁ o₂ a b c) ad aa Q X=(wpE af md a ad aa (fun u ae=>wpE af md b ad ae (fun v ah=>zam (cmpV ah o₁ u v) fun r=>
   if r then wpE af md c ad ah (fun x aq=>zam (cmpV aq o₂ v x) fun r'=>Q (.bool r') aq) X else Q (.bool false) ah) X) X):=rfl
variable {isAnd:Bool} {es:Exs}
theorem zgK:wpE af md (.bool isAnd es) ad aa Q X=(zdv af md isAnd es ad aa Q X):=rfl
variable {f:String}
theorem ziB:wpE af md (.call f es) ad aa Q X=onT (af.has "" f) (wpEs af md es ad aa (fun vs ae=>af.run "" f vs ae Q X) X):=rfl
theorem zix {c:String}:wpE af md (.make c es) ad aa Q X=onT (af.has c "__init__") (wpEs af md es ad aa (fun vs ae=>∀x d,ae x=none->ae d=none->x≠d ->
   af.run c "__init__" (.ref x::vs) ((ae.upd d (.ns [])).upd x (.inst c d)) (fun r ah=>r=.none/\Q (.ref x) ah) X) X):=rfl
variable {o:Ex} {name:String}
theorem ziv:wpE af md (.meth o name es) ad aa Q X=(wpE af md o ad aa (fun u ae=>zeI ae u fun c J fs=>(fs.lookup name=none/\af.has c name=true)/\wpEs af md es ad ae (fun vs ah=>af.run c name (u::vs) ah Q X) X) X):=rfl
theorem E_m0 {m:M0}:wpE af md (.m0 o m) ad aa Q X=(wpE af md o ad aa (fun u ae=>m0V m u ae Q) X):=rfl
theorem E_m1 {m:M1}:wpE af md (.m1 o m a) ad aa Q X=(wpE af md o ad aa (fun u ae=>zaL ae u fun J J=>wpE af md a ad ae (fun x ah=>m1V m u x ah Q) X) X):=rfl
theorem ziC:wpE af md (.attr o name) ad aa Q X=(wpE af md o ad aa (fun u ae=>zb9 af.fld u name ae fun x=>Q x ae) X):=rfl
theorem zmE {i:Ex}:wpE af md (.idx o i) ad aa Q X=(wpE af md o ad aa (fun u ae=>wpE af md i ad ae (fun v ah=>idxV u v ah fun x=>Q x ah) X) X):=rfl
theorem zfG {lo hi:ExO}:wpE af md (.slice o lo hi) ad aa Q X=(wpE af md o ad aa (fun u ae=>wpO af md lo ad ae (fun l ah=>wpO af md hi ad ah (fun h aq=>zhS u l h aq Q) X) X) X):=rfl
theorem ziy:wpE af md (.list es) ad aa Q X=(wpEs af md es ad aa (fun vs ae=>vs.length<=zao/\alloc ae (.list vs) Q) X):=rfl
theorem zfF:wpE af md (.tuple es) ad aa Q X=(wpEs af md es ad aa (fun vs ae=>vs.length<=zao/\Q (.tup vs) ae) X):=rfl
theorem zfH:wpE af md (.dict0) ad aa Q X=(alloc aa (.dict []) Q):=rfl
variable {e:Ex}
theorem E_b1 {f:B1}:wpE af md (.b1 f e) ad aa Q X=(wpE af md e ad aa (fun u ae=>b1V md f u ae Q) X):=rfl
theorem ziu:wpE af md (.min2 a b) ad aa Q X=onT md (wpE af md a ad aa (fun u ae=>wpE af md b ad ae (fun v ah=>zbt u fun i=>zbt v fun j=>Q (.int (min i j)) ah) X) X):=rfl
theorem ziw:wpE af md (.max2 a b) ad aa Q X=onT md (wpE af md a ad aa (fun u ae=>wpE af md b ad ae (fun v ah=>zbt u fun i=>zbt v fun j=>Q (.int (max i j)) ah) X) X):=rfl
theorem zis:wpE af md (.sset e) ad aa Q X=(wpE af md e ad aa (fun u ae=>znf md u ae Q) X):=rfl
theorem ziz {t:Ty}:wpE af md (.isin e t) ad aa Q X=(wpE af md e ad aa (fun u ae=>zam (zdA ae u t) fun b=>Q (.bool b) ae) X):=rfl
theorem zhB:wpE af md (.dict1 i) ad aa Q X=(zam (ad.get i) fun u=>zc9 u=true/\alloc aa (.dict [u]) Q):=rfl
theorem zgI {Q:List V->Store->Prop}:wpEs af md .nil ad aa Q X=Q [] aa:=rfl
theorem zeu {Q:List V->Store->Prop}:wpEs af md (.cons e es) ad aa Q X=wpE af md e ad aa (fun v ae=>wpEs af md es ad ae (fun vs ah=>Q (v::vs) ah) X) X:=rfl
theorem zhF:zdv af md isAnd (.cons e .nil) ad aa Q X=wpE af md e ad aa Q X:=rfl
theorem zev {e2:Ex}:zdv af md isAnd (.cons e (.cons e2 es)) ad aa Q X=wpE af md e ad aa (fun v ae=>zam (truthy ae v) fun b=>if b=isAnd then zdv af md isAnd (.cons e2 es) ad ae Q X else Q v ae) X:=rfl
theorem zgE:wpO af md .none ad aa Q X=Q .none aa:=rfl
theorem zgD:wpO af md (.some e) ad aa Q X=wpE af md e ad aa Q X:=rfl
theorem zgM {Q:Bool->Store->Prop}:wpC af md .none ad aa Q X=Q true aa:=rfl
theorem zgL {Q:Bool->Store->Prop}:wpC af md (.some e) ad aa Q X=wpE af md e ad aa (fun v ae=>zam (truthy ae v) fun b=>Q b ae) X:=rfl
theorem I_r1:wpIt af md (.range1 a) ad aa K X=wpE af md a ad aa (fun u ae=>itR1 u ae K) X:=rfl
theorem I_r2:wpIt af md (.range2 a b) ad aa K X=wpE af md a ad aa (fun u ae=>wpE af md b ad ae (fun v ah=>itR2 u v ah K) X) X:=rfl
theorem I_r3 {c:Ex}:wpIt af md (.range3 a b c) ad aa K X=wpE af md a ad aa (fun u ae=>wpE af md b ad ae (fun v ah=>wpE af md c ad ah (fun x aq=>itR3 u v x aq K) X) X) X:=rfl
theorem zk0:wpIt af md (.var i) ad aa K X=wpE af md (.var i) ad aa (fun u ae=>zb6 u ae fun items chk=>K items chk ae) X:=rfl
theorem zmz {i:Ex}:wpIt af md (.idx o i) ad aa K X=wpE af md (.idx o i) ad aa (fun u ae=>zb6 u ae fun items chk=>K items chk ae) X:=rfl
theorem zgG:wpIt af md (.attr o name) ad aa K X=wpE af md (.attr o name) ad aa (fun u ae=>zb6 u ae fun items chk=>K items chk ae) X:=rfl
theorem zmZ:wpIt af md (.list es) ad aa K X=wpE af md (.list es) ad aa (fun u ae=>zb6 u ae fun items chk=>K items chk ae) X:=rfl
theorem zgF:wpIt af md (.call f es) ad aa K X=wpE af md (.call f es) ad aa (fun u ae=>zb6 u ae fun items chk=>K items chk ae) X:=rfl
theorem zk3:wpIt af md (.meth o name es) ad aa K X=wpE af md (.meth o name es) ad aa (fun u ae=>zb6 u ae fun items chk=>K items chk ae) X:=rfl
theorem zk2 {lo hi:ExO}:wpIt af md (.slice o lo hi) ad aa K X=wpE af md (.slice o lo hi) ad aa (fun u ae=>zb6 u ae fun items chk=>K items chk ae) X:=rfl
theorem zou:wpE af md (.comp bs elt t (.range1 a) cond) ad aa Q X=onT md (wpIt af md (.range1 a) ad aa (fun items chk ae=>zbR chk (fun v ah K=>zam (zay t v ad) fun ak=>wpC af md cond ak ah (fun b aq=>if b then wpE af md elt ak aq (fun x aF=>K (some x) aF) noX else K none aq) noX) Q items [] ae) X):=rfl
theorem zla:wpE af md (.comp bs elt t (.var i) cond) ad aa Q X=onT md (wpIt af md (.var i) ad aa (fun items chk ae=>zbR chk (fun v ah K=>zam (zay t v ad) fun ak=>wpC af md cond ak ah (fun b aq=>if b then wpE af md elt ak aq (fun x aF=>K (some x) aF) noX else K none aq) noX) Q items [] ae) X):=rfl
theorem zhE:wpE af md (.comp bs elt t (.attr o name) cond) ad aa Q X=onT md (wpIt af md (.attr o name) ad aa (fun items chk ae=>zbR chk (fun v ah K=>zam (zay t v ad) fun ak=>wpC af md cond ak ah (fun b aq=>if b then wpE af md elt ak aq (fun x aF=>K (some x) aF) noX else K none aq) noX) Q items [] ae) X):=rfl
theorem zhD:wpE af md (.comp bs elt t (.call f es) cond) ad aa Q X=onT md (wpIt af md (.call f es) ad aa (fun items chk ae=>zbR chk (fun v ah K=>zam (zay t v ad) fun ak=>wpC af md cond ak ah (fun b aq=>if b then wpE af md elt ak aq (fun x aF=>K (some x) aF) noX else K none aq) noX) Q items [] ae) X):=rfl
theorem zhC:wpE af md (.comp bs elt t (.meth o name es) cond) ad aa Q X=onT md (wpIt af md (.meth o name es) ad aa (fun items chk ae=>zbR chk (fun v ah K=>zam (zay t v ad) fun ak=>wpC af md cond ak ah (fun b aq=>if b then wpE af md elt ak aq (fun x aF=>K (some x) aF) noX else K none aq) noX) Q items [] ae) X):=rfl
theorem zdI {n:Int}:itR1 (.int n) aa K=((n<2^31/\-(2^31)<n)/\K ((upto 0 n 1).map V.int) (fun J=>True) aa):=rfl
theorem zfe {m n:Int}:itR2 (.int m) (.int n) aa K=((n<2^31/\-(2^31)<n/\m<2^31/\-(2^31)<m)/\K ((upto m n 1).map V.int) (fun J=>True) aa):=rfl
theorem zfd {m n k:Int}:itR3 (.int m) (.int n) (.int k) aa K=((n<2^31/\-(2^31)<n/\m<2^31/\-(2^31)<m/\0<k/\k<1000000000)/\K ((upto m n k).map V.int) (fun J=>True) aa):=rfl
end
section
variable {af:Bool->Calls} {md:Bool} {ad:Loc} {aa:Store} {N:Loc->Store->Prop} {R:V->Store->Prop} {X:XL}
variable {e:Ex}
theorem ziq:wpS af md (.expr e) ad aa N R X=(wpE (af md) md e ad aa (fun v ae=>onT (drp v) (N ad ae)) fun c a ae=>X c a ad ae):=rfl
theorem zdP {t:Tg}:wpS af md (.assign t e) ad aa N R X=onT (tgOk md t) (wpE (af md) md e ad aa (fun v ae=>zam (zay t v ad) fun ak=>N ak ae) fun c a ae=>X c a ad ae):=rfl
theorem zdf {o:Ex} {name:String}:wpS af md (.setattr o name e) ad aa N R X=(wpE (af md) md e ad aa (fun v ae=>wpE (af md) md o ad ae (fun u ah=>zdE (af md).fld u name v ah fun aq=>N ad aq) fun c a ae=>X c a ad ae) fun c a ae=>X c a ad ae):=rfl
theorem zde {o i:Ex}:wpS af md (.setitem o i e) ad aa N R X=(wpE (af md) md e ad aa (fun v ae=>wpE (af md) md o ad ae (fun u ah=>wpE (af md) md i ad ah (fun k aq=>za4 u k v aq fun aF=>N ad aF)
   fun c a ae=>X c a ad ae) fun c a ae=>X c a ad ae) fun c a ae=>X c a ad ae):=rfl
theorem zmv:wpS af md (.ret e) ad aa N R X=(wpE (af md) md e ad aa R fun c a ae=>X c a ad ae):=rfl
variable {c:String}
theorem zfB {msg:String}:wpS af md (.raise c msg) ad aa N R X=((md=true/\c∈excNames)/\∀a,aa a=none->X c a ad aa):=rfl
theorem zmw {c:Ex} {th el:Sts}:wpS af md (.iff c th el) ad aa N R X=(wpE (af md) md c ad aa (fun v ae=>zam (truthy ae v) fun b=>if b then wpSs af md th ad ae N R X else wpSs af md el ad ae N R X) fun c a ae=>X c a ad ae):=rfl
variable {body:Sts}
theorem zin {c:Ex}:wpS af md (.whil c body) ad aa N R X=(∃n,zdQ (fun ad aa K=>wpE (af md) md c ad aa (fun v ae=>zam (truthy ae v) fun b=>K b ae) fun c a ae=>X c a ad ae)
   (fun ad aa K=>wpSs af md body ad aa K R X) N n ad aa):=rfl
theorem zmx {t:Tg} {it:Ex}:wpS af md (.for t it body) ad aa N R X=onT md (wpIt (af md) md it ad aa (fun items chk ae=>forV chk (fun v ad aa K=>zam (zay t v ad) fun ak=>wpSs af md body ak aa K R X) N items ad ae)
   fun c a ae=>X c a ad ae):=rfl
theorem zio {hs:Hs}:wpS af md (.tryx body hs) ad aa N R X=onT md (wpSs af md body ad aa N R fun c a ak ac=>wpHs af hs c a ak ac N R X):=rfl
theorem zgC:wpSs af md .nil ad aa N R X=N ad aa:=rfl
theorem zes {s:St} {r:Sts}:wpSs af md (.cons s r) ad aa N R X=wpS af md s ad aa (fun aE ae=>wpSs af md r aE ae N R X) R X:=rfl
theorem zk4 {a:Addr}:wpHs af .nil c a ad aa N R X=X c a ad aa:=rfl
theorem zgH {C:String} {x:Nat} {r:Hs} {a:Addr}:wpHs af (.cons C x body r) c a ad aa N R X=(if c=C then wpSs af false body (ad.set x (some (.ref a))) (aa.upd a (.exc c)) (fun ak ac=>N (ak.set x none) ac) R (fun J J J J=>False) else wpHs af r c a ad aa N R X):=rfl
end
end Mine.Internal
end
section
namespace Mine.Internal
open PySem PySem.W PySem.Calls PyProof.Rows
mutual
inductive VR (h:Heap):V->Value->Prop
 |none:VR h .none .none
 |bool {b:Bool}:VR h (.bool b) (.bool b)
 |int {i:Int} {t:Tok}:VR h (.int i) (.int i t)
 |str {s:Str} {t:Tok}:VR h (.str s) (.str s t)
 |ref {a:Addr}:VR h (.ref a) (.ref a)
 |tup {vs:List V} {xs:List Value} {a:Addr} {n:Nat}:h.get? a=some (seqObj "tuple" xs.toArray n)->VRs h vs xs->VR h (.tup vs) (.ref a)
inductive VRs (h:Heap):List V->List Value->Prop
 |nil:VRs h [] []
 |cons {v:V} {vs:List V} {x:Value} {xs:List Value}:VR h v x->VRs h vs xs->VRs h (v::vs) (x::xs)
end
def IsT (o:Obj):Prop:=o.cls=.type "tuple" /\ ∃xs n,o.data=.seq xs n
def zaU (h h':Heap):Prop:=∀a o,h.get? a=some o->IsT o->h'.get? a=some o
variable {h':Heap}
theorem VR.keep {h:Heap} (k:zaU h h') {v:V} {x:Value} (r:VR h v x):VR h' v x:=
 VR.rec (motive_1:=fun v x J=>VR h' v x) (motive_2:=fun v x J=>VRs h' v x) .none .bool .int .str .ref (fun e J ih=>.tup (k _ _ e ⟨rfl,_,_,rfl⟩) ih) .nil (fun J J a b=>.cons a b) r
variable {h:Heap} {v:List V} {x:List Value}
theorem VRs.ind {P:List V->List Value->Prop} (n:P [] []) (c:∀{v:V} {vs:List V} {x:Value} {xs:List Value},VR h v x->VRs h vs xs->P vs xs->P (v::vs) (x::xs)) (r:VRs h v x):P v x:=
 VRs.rec (motive_1:=fun J J J=>True) (motive_2:=fun v x J=>P v x) trivial trivial trivial trivial trivial (fun J J J=>trivial) n (fun a r J ih=>c a r ih) r
theorem VRs.keep {h:Heap} (k:zaU h h') (r:VRs h v x):VRs h' v x:=
 r.ind (P:=fun v x=>VRs h' v x) .nil fun a J b=>.cons (a.keep k) b
theorem VRs.length {h:Heap} {v:List V} {x:List Value} (r:VRs h v x):v.length=x.length:=
 r.ind (P:=fun v x=>v.length=x.length) rfl fun J J ih=>congrArg (· + 1) ih
theorem VRs.append {u:List V} {y:List Value} (r:VRs h u x) (q:VRs h v y):VRs h (u++v) (x++y):=
 r.ind (P:=fun u x=>VRs h (u++v) (x++y)) q fun a J ih=>.cons a ih
theorem VRs.nil_of (r:VRs h [] x):x=[]:=by cases r;rfl
theorem VRs.cons_of {v:V} {vs:List V} (r:VRs h (v::vs) x):∃y ys,x=y::ys/\VR h v y/\VRs h vs ys:=by cases r;exact ⟨_,_,rfl,‹_›,‹_›⟩
theorem VRs.two_of {u v:V} (r:VRs h [u,v] x):∃y z,x=[y,z]/\VR h u y/\VR h v z:=by
 refine ob2 r.cons_of ?_;intro y J ee1;subst ee1;intro a r;refine ob2 r.cons_of ?_;intro z J ee2;subst ee2;intro b r;rw [r.nil_of];exact ⟨y,z,rfl,a,b⟩
theorem VRs.get {h:Heap} {v:List V} {x:List Value} (r:VRs h v x) {i:Nat} {a:V} (e:v[i]?=some a):∃b,x[i]?=some b/\VR h a b:=
 r.ind (P:=fun v x=>∀(i:Nat) (a:V),v[i]?=some a->∃b,x[i]?=some b/\VR h a b) (fun i a e=>by rw [List.getElem?_nil] at e;cases e)
  (fun q J ih i a e=>by
   cases i with
   |zero=>cases e;exact ⟨_,rfl,q⟩
   |succ i=>exact ih i a e) i a e
section
variable (cls:String->Option Addr) (prog:Program) (w:World)
def KR (h:Heap) (a:Addr) (ks:List V):Prop:=
 (∃ns:List Int,ks=ns.map V.int/\h.DictOf (intKind prog w) a (ns.map fun n=>(n,Value.bool true))) \/
 (∃ps:List ((Int×Int)×Addr),ks=ps.map (fun p=>V.tup [.int p.1.1,.int p.1.2])/\h.DictOfH (tupleKind (intKind prog w)) a (ps.map fun p=>([p.1.1,p.1.2],p.2,Value.bool true)))
def NR (h:Heap):List (String×V)->List DictEntry->Prop
 | [],[]=>True
 |(n,v)::r,e::es=>(∃t,e.key=.str (Str.ofString n) t)/\VR h v e.val/\NR h r es
 |_,_=>False
def OR (h:Heap) (a:Addr):AO->Prop
 |.list vs=>∃xs n,h.get? a=some (seqObj "list" xs.toArray n)/\VRs h vs xs/\vs.length<=zao
 |.fixed vs=>∃xs,h.IsList a xs.toArray/\VRs h vs xs/\vs.length<=zao
 |.dict ks=>KR prog w h a ks/\ks.length<=zao
 |.inst c d=>∃C,cls c=some C/\h.get? a=some (instObj C d)
 |.ns fs=>∃es n,h.get? a=some (dictOf es n)/\NR h fs es/\(fs.map (·.1)).Nodup
 |.exc c=>∃C o vs,cls c=some C/\h.get? a=some o/\(o.cls=.ref C/\o.dict=none)/\o.data=.fields vs
end
def KeptAs (o:Obj) (r:Option Obj):Prop:=r=some o\/∃es n sl,o.data=.dict es n/\r=some { o with slots:=sl }
structure HStep (D:Addr->Prop) (h h':Heap):Prop where
 size:h.objs.size<=h'.objs.size
 keep:∀a o,h.get? a=some o->¬D a->KeptAs o (h'.get? a)
 tup:zaU h h'
structure Cx where
 prog:Program
 w:World
 base:Heap
 cls:String->Option Addr
 fn:String->String->Option Addr
 fld:String->String->Bool
 K:Frag
 mg:Str->Option Value
 mb:Str->Option Value
abbrev Cx.M (C:Cx):Model:=model C.prog C.w
structure Rel (C:Cx) (aa:Store) (h:Heap):Prop where
 stays:C.base.StaysIn h
 tr:∀a o,aa a=some o->OR C.cls C.prog C.w h a o
 new:∀a o,aa a=some o->C.base.objs.size<=a\/∃vs,o=.fixed vs
 size:C.base.objs.size<=h.objs.size
structure Step (C:Cx) (D:Addr->Prop) (aa:Store) (s:Shared) (ac:Store) (s':Shared):Prop where
 h:HStep (fun a=>aa a≠none\/D a) s.heap s'.heap
 rel:Rel C ac s'.heap
 dom:∀a,aa a≠none->ac a≠none
 fresh:∀a,ac a≠none->aa a≠none\/s.heap.objs.size<=a
 gens:s'.gens=s.gens
 os:s'.os=s.os
def No:Addr->Prop:=fun J=>False
variable {o:Obj} {r:Option Obj}
theorem KeptAs.trans {r':Option Obj} (x:KeptAs o r) (y:∀o',r=some o'->KeptAs o' r'):KeptAs o r':=by
 rcases x with rfl |⟨es,n,sl,hd,rfl⟩
 ·exact y _ rfl
 ·rcases y _ rfl with rfl |⟨_,_,sl',_,rfl⟩
  ·exact .inr ⟨es,n,sl,hd,rfl⟩
  ·exact .inr ⟨es,n,sl',hd,rfl⟩
theorem KeptAs.some {o:Obj} (x:KeptAs o r):∃o',r=some o'/\o'.data=o.data/\o'.cls=o.cls/\o'.dict=o.dict:=by
 rcases x with rfl |⟨es,n,sl,hd,rfl⟩
 ·exact ⟨_,rfl,rfl,rfl,rfl⟩
 ·exact ⟨_,rfl,rfl,rfl,rfl⟩
theorem KeptAs.plain (x:KeptAs o r) (hd:∀es n,o.data≠.dict es n):r=Option.some o:=by
 rcases x with rfl |⟨es,n,sl,hd',rfl⟩
 ·rfl
 ·exact absurd hd' (hd _ _)
variable {D:Addr->Prop}
theorem HStep.refl:HStep D h h:=⟨qal _,fun J J e J=>.inl e,fun J J e J=>e⟩
theorem HStep.trans {D':Addr->Prop} {ao aB aA:Heap} (x:HStep D ao aB) (y:HStep D' aB aA) (hD:∀a,D' a->D a\/ao.objs.size<=a):HStep D ao aA:=
 ⟨qak x.size y.size,fun a o e n=>(x.keep a o e n).trans fun o' e'=>y.keep a o' e' fun d=>(hD a d).elim n fun l=>absurd (Heap.lt_size e) (Nat.not_lt.mpr l),
  fun a o e t=>y.tup a o (x.tup a o e t) t⟩
theorem HStep.grow (k:∀b o,h.get? b=some o->h'.get? b=some o) (hs:h.objs.size<=h'.objs.size):HStep D h h':=
 ⟨hs,fun a o e J=>.inl (k a o e),fun a o e J=>k a o e⟩
theorem HStep.mono {D':Addr->Prop} (x:HStep D h h') (m:∀a,D a->D' a):HStep D' h h':=⟨x.size,fun a o e n=>x.keep a o e fun d=>n (m a d),x.tup⟩
variable {C:Cx} {s:Shared}
theorem Step.refl {aa:Store} (r:Rel C aa s.heap):Step C D aa s aa s:=
 ⟨.refl,r,fun J x=>x,fun J x=>.inl x,rfl,rfl⟩
variable {ae:Store} {ag:Shared}
theorem Step.trans {ah aq:Store} {ai az:Shared} (x:Step C D ae ag ah ai) (y:Step C D ah ai aq az):Step C D ae ag aq az:=
 ⟨x.h.trans y.h fun a d=>d.elim (fun n=>(x.fresh a n).imp .inl id) fun d=>.inl (.inr d),y.rel,fun a n=>y.dom a (x.dom a n),
  fun a n=>(y.fresh a n).elim (x.fresh a) fun l=>.inr (qak x.h.size l),y.gens.trans x.gens,y.os.trans x.os⟩
variable {aa ac:Store} {s':Shared}
theorem Step.mono {D':Addr->Prop} (x:Step C D aa s ac s') (m:∀a,D a->D' a):Step C D' aa s ac s':=
 ⟨x.h.mono fun a d=>d.imp id (m a),x.rel,x.dom,x.fresh,x.gens,x.os⟩
theorem Step.no {D:Addr->Prop} (x:Step C No aa s ac s'):Step C D aa s ac s':=x.mono fun J f=>f.elim
theorem Step.drop (x:Step C D aa s ac s') (m:∀a,D a->s.heap.objs.size<=a):Step C No aa s ac s':=
 ⟨⟨x.h.size,fun a o e n=>x.h.keep a o e fun d=>d.elim (fun z=>n (.inl z)) fun z=>absurd (Heap.lt_size e) (Nat.not_lt.mpr (m a z)),x.h.tup⟩,x.rel,x.dom,x.fresh,x.gens,x.os⟩
theorem Step.vr {D:Addr->Prop} (x:Step C D aa s ac s') {v:V} {u:Value} (r:VR s.heap v u):VR s'.heap v u:=r.keep x.h.tup
theorem Step.vrs (x:Step C D aa s ac s') {u:List Value} (r:VRs s.heap v u):VRs s'.heap v u:=r.keep x.h.tup
theorem Step.toks {D:Addr->Prop} (r:Rel C aa s.heap) (t:Nat):Step C D aa s aa { s with toks:=t }:=
 ⟨.refl,r,fun J x=>x,fun J x=>.inl x,rfl,rfl⟩
def Fly (C:Cx) (aw h:Heap) (e:Addr) (c:String):Prop:=
 ∃Cl oe vs,(C.cls c=some Cl/\c∈excNames)/\h.get? e=some oe/\(oe.cls=.ref Cl/\oe.dict=none)/\oe.data=.fields vs/\1<vs.size/\aw.objs.size<=e /\
  (vs[1]?=some .none\/∃T oT ts,vs[1]?=some (.ref T)/\T≠e/\aw.objs.size<=T/\h.get? T=some oT/\oT.cls=.type "traceback" /\ oT.data=.fields ts/\3<ts.size)
theorem Fly.older {aw ao:Heap} {e:Addr} {c:String} (x:Fly C ao h e c) (l:aw.objs.size<=ao.objs.size):Fly C aw h e c:=by
 refine ob3 x ?_;clear x;intro Cl oe vs a1 a2 a3 a4 a5 a6 a7;exact ⟨Cl,oe,vs,a1,a2,a3,a4,a5,qak l a6,a7.imp id fun z=>by
  refine ob4 z ?_;clear z;intro T oT ts b1 b2 b3 b4;exact ⟨T,oT,ts,b1,b2,qak l b3,b4⟩⟩
def PostV (C:Cx) (aa:Store) (s:Shared) (Q:V->Store->Prop):Value->Shared->Prop:=fun v s'=>∃V ac,Q V ac/\VR s'.heap V v/\Step C No aa s ac s'
def PostX (C:Cx) (aa:Store) (s:Shared) (X:XP):Value->Shared->Prop:=fun x s'=>∃e c ac,x=.ref e/\X c e ac/\Step C No aa s ac s'/\Fly C s.heap s'.heap e c/\ac e=none
theorem PostX.from {X:XP} {x:Value} (y:Step C No aa s ae ag) (h:PostX C ae ag X x s'):PostX C aa s X x s':=by
 refine ob5 h ?_;clear h;intro e c ac ee3;subst ee3;intro hX st fl n;exact ⟨e,c,ac,rfl,hX,y.trans st,fl.older y.h.size,n⟩
theorem PostV.from {Q:V->Store->Prop} {v:Value} (y:Step C No aa s ae ag) (h:PostV C ae ag Q v s'):PostV C aa s Q v s':=by
 refine ob2 h ?_;clear h;intro V ac hQ hv st;exact ⟨V,ac,hQ,hv,y.trans st⟩
def FramesOk (C:Cx) (A:Around) (aa:Store) (h:Heap):Prop:=∃l,A.frames=some l/\h.FunFrames C.base l/\∀L∈l.filterMap (·.frame),aa L=none/\∃o es n,h.get? L=some o/\o.data=.dict es n
structure AOk (C:Cx) (k:Nat) (md:Bool) (A:Around) (aa:Store) (h:Heap):Prop where
 frames:FramesOk C A aa h
 handled:md=true->A.handled=none
 depth:A.depth+3*k<990
 units:A.units+40*k<9000
theorem FramesOk.keep {A:Around} {D:Addr->Prop} (x:FramesOk C A aa s.heap) (y:Step C D aa s ac s')
  (hD:∀l,A.frames=some l->∀L∈l.filterMap (·.frame),D L->∃o es n,s'.heap.get? L=some o/\o.data=.dict es n):FramesOk C A ac s'.heap:=by
 refine ob6 x ?_;clear x;intro l hl hf hn;have hD:=hD l hl;have at_:∀L∈l.filterMap (·.frame),∃o es n,s'.heap.get? L=some o/\o.data=.dict es n:=fun L hL=>by
  by_cases hd:D L
  ·exact hD L hL hd
  ·refine ob7 (hn L hL) ?_;intro h1 o es n h2 h3;refine ob8 ((y.h.keep L o h2 (fun d=>d.elim (fun z=>z h1) hd)).some) ?_;intro o' ho' hd' J J;exact ⟨o',es,n,ho',hd'.trans h3⟩
 refine ⟨l,hl,?_,fun L hL=>⟨?_,at_ L hL⟩⟩
 ·clear hl hD
  induction l with
  |nil=>trivial
  |cons env r ih=>
   refine ob9 hf ?_;clear hf;intro hk L o e1 e2 e3 e4 hr;have sub:∀L'∈r.filterMap (·.frame),L'∈(env::r).filterMap (·.frame):=fun L' hL'=>by rw [List.filterMap_cons,e1];exact qag _ hL'
   obtain ⟨o',es,n,ho',hd'⟩:=at_ L (by rw [List.filterMap_cons,e1];exact qaj)
   exact ⟨hk,⟨L,o',e1,e2,ho',fun vs q=>by rw [hd'] at q;cases q⟩,ih hr (fun L' hL'=>hn L' (sub L' hL')) fun L' hL'=>at_ L' (sub L' hL')⟩
 ·cases q:ac L with
  |none=>rfl
  |some o=>
   rcases y.fresh L (by rw [q];simp) with z |z
   ·exact absurd (hn L hL).1 z
   ·refine ob7 (hn L hL) ?_;intro J o J J ho J;exact absurd (Heap.lt_size ho) (Nat.not_lt.mpr z)
theorem AOk.keep {k:Nat} {md:Bool} {A:Around} {D:Addr->Prop} (x:AOk C k md A aa s.heap) (y:Step C D aa s ac s')
  (hD:∀l,A.frames=some l->∀L∈l.filterMap (·.frame),D L->∃o es n,s'.heap.get? L=some o/\o.data=.dict es n):AOk C k md A ac s'.heap:=
 ⟨x.frames.keep y hD,x.handled,x.depth,x.units⟩
theorem AOk.step {C:Cx} {k:Nat} {md:Bool} {A:Around} {aa ac:Store} {s s':Shared} (x:AOk C k md A aa s.heap) (y:Step C No aa s ac s'):AOk C k md A ac s'.heap:=x.keep y fun J J J J f=>f.elim
structure EnvOk (env:Env):Prop where
 kind:env.scope.kind=.function
 globals:env.globals=mainGlobals
 builtins:env.builtins=builtinsNs
def Holds (h:Heap) (env:Env) (x:Str) (v:V):Prop:=
 match env.kindOf x with
 |some .local=>∃m u,h.Ns env.locals m/\m x=some u/\VR h v u
 |some .cell |some .free=>∃c u,env.cells.lookup x=some c/\h.IsCell c (some u)/\VR h v u
 |_=>True
def Own (env:Env) (a:Addr):Prop:=a=env.locals\/∃x,env.cells.lookup x=some a
def OwnAt (env:Env) (x:Str) (a:Addr):Prop:=(env.kindOf x=some .local/\a=env.locals)\/(env.kindOf x=some .cell/\env.cells.lookup x=some a)
variable {env:Env} {a:Addr}
theorem OwnAt.own {x:Str} (h:OwnAt env x a):Own env a:=h.elim (fun h=>.inl h.2) fun h=>.inr ⟨_,h.2⟩
structure LR (C:Cx) (aa:Store) (h:Heap) (env:Env) (nm:List (String×Nat)) (ad:Loc):Prop where
 holds:∀x i v,nm.lookup x=some i->ad.get i=some v->Holds h env (Str.ofString x) v
 locals:∃m,h.Ns env.locals m
 lnew:aa env.locals=none/\C.base.get? env.locals=none
 cells:∀x c,env.cells.lookup x=some c->(∃v,h.IsCell c v)/\aa c=none/\C.base.get? c=none
 apart:∀x y c,env.cells.lookup x=some c->env.cells.lookup y=some c->x=y
theorem zj0 {m:Str->Option Value} (hn:h.Ns a m) (ho:h.get? a=some o) (k:KeptAs o (h'.get? a)):h'.Ns a m:=by
 refine ob10 hn ?_;clear hn;intro o₁ es ep h1 h2 h3;rw [ho] at h1;cases h1;refine ob8 k.some ?_;intro o' e1 e2 J J;exact ⟨o',es,ep,e1,e2.trans h2,h3⟩
theorem zkP {v:Option Value} (hc:h.IsCell a v) (k:∀o,h.get? a=some o->KeptAs o (h'.get? a)):h'.IsCell a v:=by
 refine ob1 hc ?_;clear hc;intro o ho hd;exact ⟨o,(k o ho).plain (fun es n q=>by rw [hd] at q;cases q),hd⟩
theorem zcg (y:Step C D aa s ac s') (ho:s.heap.get? a=some o) (hn:aa a=none):ac a=none:=by
 cases q:ac a with
 |none=>rfl
 |some x=>
  rcases y.fresh a (by rw [q];simp) with z |z
  ·exact absurd hn z
  ·exact absurd (Heap.lt_size ho) (Nat.not_lt.mpr z)
set_option tactic.hygienic true in
theorem Holds.frame {x:Str} {v:V} (q:Holds h env x v) (k:zaU h h') (hL:env.kindOf x=some .local->∀m u,h.Ns env.locals m->m x=some u->∃m',h'.Ns env.locals m'/\m' x=some u)
  (hC:∀c u,env.cells.lookup x=some c->h.IsCell c u->h'.IsCell c u):Holds h' env x v:=by
 unfold Holds at q ⊢
 split at q
 ·rename_i e;refine ob2 q ?_;clear q;intro m u h1 h2 h3;refine ob1 (hL e m u h1 h2) ?_;intro m' h4 h5;exact ⟨m',u,h4,h5,h3.keep k⟩
 ·refine ob2 q ?_;clear q;intro c u h1 h2 h3;exact ⟨c,u,h1,hC c _ h1 h2,h3.keep k⟩
 ·refine ob2 q ?_;clear q;intro c u h1 h2 h3;exact ⟨c,u,h1,hC c _ h1 h2,h3.keep k⟩
 ·trivial
variable {ad:Loc}
theorem LR.keep {D:Addr->Prop} {nm:List (String×Nat)} (x:LR C aa s.heap env nm ad) (y:Step C D aa s ac s') (hO:∀a,Own env a->¬D a):LR C ac s'.heap env nm ad:=by
 refine ob11 x.locals ?_;intro m o es ep hL hLd hLr;have kL:∀o,s.heap.get? env.locals=some o->KeptAs o (s'.heap.get? env.locals):=fun o ho=>y.h.keep _ o ho fun d=>d.elim (fun z=>z x.lnew.1) (hO _ (.inl rfl));have kN:∀m,s.heap.Ns env.locals m->s'.heap.Ns env.locals m:=fun m hm=>zj0 hm hL (kL o hL);have kC:∀{n c v},env.cells.lookup n=some c->s.heap.IsCell c v->s'.heap.IsCell c v:=fun {n c v} hc hv=>zkP hv fun o ho=>y.h.keep _ o ho fun d=>d.elim (fun z=>z (x.cells _ _ hc).2.1) (hO _ (.inr ⟨_,hc⟩));refine ⟨fun n i v hn hv=>?_,⟨m,kN m ⟨o,es,ep,hL,hLd,hLr⟩⟩,⟨zcg y hL x.lnew.1,x.lnew.2⟩,fun n c hc=>?_,x.apart⟩
 ·have:=x.holds n i v hn hv;exact this.frame y.h.tup (fun J m u h1 h2=>⟨m,kN m h1,h2⟩) fun c u hc hv=>kC hc hv
 ·refine ob12 (x.cells n c hc) ?_;intro v hv h2 h3;refine ob1 (id hv) ?_;intro o' ho' J;exact ⟨⟨v,kC hc hv⟩,zcg y ho' h2,h3⟩
def Low (A:Around) (n:Nat):Prop:=∀l,A.frames=some l->∀L∈l.filterMap (·.frame),L<n
theorem LR.step {C:Cx} {aa ac:Store} {s s':Shared} {env:Env} {nm:List (String×Nat)} {ad:Loc} (x:LR C aa s.heap env nm ad) (y:Step C No aa s ac s'):LR C ac s'.heap env nm ad:=x.keep y fun J J d=>d
theorem LR.own {nm:List (String×Nat)} (x:LR C aa h env nm ad):∀a,Own env a->∃o,h.get? a=some o/\∀vs,o.data≠.fields vs:=by
 rintro a (rfl |⟨n,hc⟩)
 ·refine ob11 x.locals ?_;intro m o es ep hL hLd J;exact ⟨o,hL,fun vs q=>by rw [hLd] at q;cases q⟩
 ·refine ob13 (x.cells n a hc) ?_;intro v o ho hd J;exact ⟨o,ho,fun vs q=>by rw [hd] at q;cases q⟩
theorem NR.keep {h h':Heap} (k:zaU h h'):∀{fs:List (String×V)} {es:List DictEntry},NR h fs es->NR h' fs es
 | [],[],_=>trivial
 |(_,_)::_,_::_,⟨a,b,c⟩=>⟨a,b.keep k,NR.keep k c⟩
 | [],_::_,f=>f.elim
 |_::_,[],f=>f.elim
variable {prog:Program} {w:World}
theorem KR.keep {h:Heap} {ks:List V} (x:KR prog w h a ks) (e:h'.get? a=h.get? a) (k:zaU h h'):KR prog w h' a ks:=by
 rcases x with ⟨ns,h1,o,es,ep,h2,h3⟩ |⟨ps,h1,o,es,ep,h2,h3,h4,h5,h6,h7⟩
 ·exact .inl ⟨ns,h1,o,es,ep,e.trans h2,h3⟩
 ·refine .inr ⟨ps,h1,o,es,ep,e.trans h2,h3,h4,h5,fun x hx=>?_,h7⟩;refine ob10 (h6 x hx) ?_;intro o' items n q1 q2 q3;exact ⟨o',items,n,k _ _ q1 ⟨q2,_,_,q3.1⟩,q2,q3⟩
theorem OR.keep {cls:String->Option Addr} {h:Heap} {o:AO} (x:OR cls prog w h a o) (e:h'.get? a=h.get? a) (k:zaU h h'):OR cls prog w h' a o:=by
 cases o with
 |list vs=>obtain ⟨xs,n,h1,h2,h3⟩:=x;exact ⟨xs,n,e.trans h1,h2.keep k,h3⟩
 |fixed vs=>obtain ⟨xs,⟨o,h1,h1'⟩,h2,h3⟩:=x;exact ⟨xs,⟨o,e.trans h1,h1'⟩,h2.keep k,h3⟩
 |dict ks=>exact ⟨x.1.keep e k,x.2⟩
 |inst c d=>obtain ⟨C,h1,h2⟩:=x;exact ⟨C,h1,e.trans h2⟩
 |ns fs=>obtain ⟨es,n,h1,h2,h3⟩:=x;exact ⟨es,n,e.trans h1,h2.keep k,h3⟩
 |exc c=>obtain ⟨C,o,vs,h1,h2,h3⟩:=x;exact ⟨C,o,vs,h1,e.trans h2,h3⟩
theorem OR.there {cls:String->Option Addr} {o:AO} (x:OR cls prog w h a o):∃ob,h.get? a=some ob/\¬IsT ob/\(∀v,ob.data≠.cell v)/\ob.cls≠.type "frame" /\ ob.cls≠.type "traceback" := by
 have nt:∀{ob:Obj},ob.cls≠.type "tuple" -> ¬IsT ob:=fun n q=>n q.1;have ty:∀{x y:String},x≠y->Value.type x≠Value.type y:=fun n q=>n (by injection q)
 cases o with
 |list vs=>obtain ⟨xs,n,h1,h2,h3⟩:=x;exact ⟨_,h1,nt (ty (by decide)),by simp,ty (by decide),ty (by decide)⟩
 |fixed vs=>obtain ⟨xs,⟨o,h1,h4,n,h5⟩,h2,h3⟩:=x;exact ⟨_,h1,nt (by rw [h4];exact ty (by decide)),by rw [h5];simp,by rw [h4];exact ty (by decide),by rw [h4];exact ty (by decide)⟩
 |dict ks=>
  rcases x.1 with ⟨ns,h1,o,es,ep,h2,h3,h4,_⟩ |⟨ps,h1,o,es,ep,h2,h3,h4,_⟩
  ·exact ⟨o,h2,nt (by rw [h3.1];exact ty (by decide)),by rw [h4];simp,by rw [h3.1];exact ty (by decide),by rw [h3.1];exact ty (by decide)⟩
  ·exact ⟨o,h2,nt (by rw [h3.1];exact ty (by decide)),by rw [h4];simp,by rw [h3.1];exact ty (by decide),by rw [h3.1];exact ty (by decide)⟩
 |inst c d=>obtain ⟨C,h1,h2⟩:=x;exact ⟨_,h2,nt (by simp),by simp,by simp,by simp⟩
 |ns fs=>obtain ⟨es,n,h1,h2,h3⟩:=x;exact ⟨_,h1,nt (ty (by decide)),by simp,ty (by decide),ty (by decide)⟩
 |exc c=>obtain ⟨C,o,vs,h1,h2,⟨h3,_⟩,h4⟩:=x;exact ⟨_,h2,nt (by rw [h3];simp),by rw [h4];simp,by rw [h3];simp,by rw [h3];simp⟩
theorem Rel.frame (r:Rel C aa h) (e:∀a o,aa a=some o->h'.get? a=h.get? a) (k:zaU h h') (st:C.base.StaysIn h') (hs:h.objs.size<=h'.objs.size):Rel C aa h':=
 ⟨st,fun a o q=>(r.tr a o q).keep (e a o q) k,r.new,qak r.size hs⟩
theorem Step.oneBut {t:Nat} (r:Rel C aa s.heap) (hs:Heap.SameBut a s.heap h') (hn:aa a=none) (hb:C.base.get? a=none) (hD:D a)
  (ho:s.heap.get? a=some o) (ht:¬IsT o):Step C D aa s aa { s with heap:=h',toks:=t }:=by
 have k:zaU s.heap h':=fun b ob e tc=>(hs.2 b fun q=>by subst q;rw [ho] at e;cases e;exact ht tc).trans e
 refine ⟨⟨Nat.le_of_eq hs.1.symm,fun b ob e n=>.inl ((hs.2 b fun q=>n (.inr (q▸hD))).trans e),k⟩,r.frame (fun b ob q=>hs.2 b fun z=>by rw [z,hn] at q;cases q) k (fun b ob e=>?_) (Nat.le_of_eq hs.1.symm),fun J x=>x,fun J x=>.inl x,rfl,rfl⟩
 exact (hs.2 b fun q=>by rw [q,hb] at e;cases e).trans (r.stays b ob e)
theorem ofString_inj {x y:String} (h:Str.ofString x=Str.ofString y):x=y:=by
 rw [Str.ofString_eq_toList,Str.ofString_eq_toList] at h
 injection h with h
 have h':x.toList.map Char.toNat=y.toList.map Char.toNat:=by simpa using h
 have inj:∀a b:List Char,a.map Char.toNat=b.map Char.toNat->a=b:=by
  intro a
  induction a with
  |nil=>intro b e;cases b with |nil=>rfl |cons _ _=>simp at e
  |cons c r ih=>
   intro b e;cases b with
   |nil=>simp at e
   |cons d q=>
    simp only [List.map_cons,List.cons.injEq] at e;rw [ih q e.2];have:c=d:=Char.ext (UInt32.toNat_inj.mp e.1);rw [this]
 exact String.ext (inj _ _ h')
theorem Loc.get_set_self {i:Nat} {v:Option V} (h:i<ad.length):Loc.get (ad.set i v) i=v:=by simp [Loc.get,h]
theorem Loc.get_set_ne {i j:Nat} {v:Option V} (h:j≠i):Loc.get (ad.set i v) j=Loc.get ad j:=by simp [Loc.get,Ne.symm h]
def NmOk (nm:List (String×Nat)) (n:Nat):Prop:=(∀x y i,nm.lookup x=some i->nm.lookup y=some i->x=y)/\∀x i,nm.lookup x=some i->i<n
section
variable {C:Cx} {A:Around} {E:Value->Shared->Prop} {aa:Store} {s:Shared} {env:Env} {nm:List (String×Nat)} {ad:Loc}
theorem zka {x:String} {i:Nat} {v:V} {pos:Pos} {Q:Value->Shared->Prop} (Ev:EnvOk env) (L:LR C aa s.heap env nm ad) (hx:nm.lookup x=some i) (hv:ad.get i=some v)
  (hk:env.kindOf (Str.ofString x)=some .local\/env.kindOf (Str.ofString x)=some .cell\/env.kindOf (Str.ofString x)=some .free)
  (hd:(Str.ofString x==("__debug__" : Str))=false) (hc:(Str.ofString x==("__classdict__" : Str))=false)
  (h:∀u,VR s.heap v u->Q u s):wpAny C.M A (eval (.Name (Str.ofString x) pos) env) Q E s:=by
 have q:=L.holds x i v hx hv;unfold Holds at q;refine wpAny_Name ?_ hd
 rcases hk with e |e |e
 ·rw [e] at q;refine ob2 q ?_;clear q;intro m u h1 h2 h3;exact wpAny_loadName_local Ev.kind e h1 h2 (h u h3)
 ·rw [e] at q;refine ob2 q ?_;clear q;intro c u h1 h2 h3;exact wpAny_loadName_cell Ev.kind e h1 h2 (h u h3)
 ·rw [e] at q;refine ob2 q ?_;clear q;intro c u h1 h2 h3;exact wpAny_loadName_free Ev.kind e h1 h2 (h u h3) hc
theorem zfY {h:Heap} {a:Addr} {m m':Str->Option Value} (x:h.Ns a m) (y:h.Ns a m'):m=m':=by
 refine ob4 x ?_;clear x;intro o es ep h1 h2 h3 h4;refine ob4 y ?_;clear y;intro o' es' ep' h1' h2' h3' h4';rw [h1] at h1';cases h1';rw [h2] at h2';cases h2'
 funext n
 rw [←h4 n,←h4' n]
theorem zlq {x:String} {i n:Nat} {v:V} {u:Value} {Q:Unit->Shared->Prop} (Ev:EnvOk env) (R:Rel C aa s.heap) (L:LR C aa s.heap env nm ad) (hx:nm.lookup x=some i) (hn:NmOk nm n) (hl:ad.length=n)
  (hk:env.kindOf (Str.ofString x)=some .local\/env.kindOf (Str.ofString x)=some .cell) (hcl:env.kindOf (Str.ofString x)=some .cell->(env.cells.lookup (Str.ofString x)).isSome=true) (hv:VR s.heap v u)
  (h:∀s',Step C (OwnAt env (Str.ofString x)) aa s aa s'->LR C aa s'.heap env nm (ad.set i (some v))->Q () s'):wpAny C.M A (storeName env (Str.ofString x) u) Q E s:=by
 have hi:i<ad.length:=hl▸hn.2 x i hx;have other:∀y j w,nm.lookup y=some j->Loc.get (ad.set i (some v)) j=some w->(y=x/\w=v)\/(Str.ofString y≠Str.ofString x/\ad.get j=some w):=fun y j w hy hw=>by
  by_cases e:y=x
  ·subst e;rw [hx] at hy;cases hy;rw [Loc.get_set_self hi] at hw;cases hw;exact .inl ⟨rfl,rfl⟩
  ·have hji:j≠i:=fun q=>by subst q;exact e (hn.1 y x _ hy hx)
   rw [Loc.get_set_ne hji] at hw;exact .inr ⟨fun q=>e (ofString_inj q),hw⟩
 rcases hk with e |e
 ·refine ob14 L.locals ?_;intro m hm;refine ob10 (id hm) ?_;intro o es ep ho hod J;have hoc:¬IsT o:=fun ⟨_,_,_,q⟩=>by rw [hod] at q;cases q
  refine wpAny_storeName_local e hm (fun h' hn' hs=>?_) (by rw [Ev.kind];rfl)
  have st:Step C (OwnAt env (Str.ofString x)) aa s aa { s with heap:=h',toks:=s.toks+1 }:=Step.oneBut R hs L.lnew.1 L.lnew.2 (.inl ⟨e,rfl⟩) ho hoc;have cell:∀{c w},s.heap.IsCell c w->h'.IsCell c w:=fun {c w} ⟨oc,h1,h2⟩=>⟨oc,(hs.2 c fun q=>by rw [q,ho] at h1;cases h1;rw [hod] at h2;cases h2).trans h1,h2⟩
  refine h _ st ⟨fun y j w hy hw=>?_,⟨_,hn'⟩,L.lnew,fun y c hc=>?_,L.apart⟩
  ·rcases other y j w hy hw with ⟨rfl,rfl⟩ |⟨ny,hw'⟩
   ·unfold Holds;rw [e];exact ⟨_,u,hn',if_pos rfl,st.vr hv⟩
   ·refine (L.holds y j w hy hw').frame st.h.tup (fun J bE bp bz bu=>⟨_,hn',?_⟩) fun c bp J hc=>cell hc;rw [if_neg ny,zfY hm bz];exact bu
  ·refine ob15 (L.cells y c hc) ?_;intro w hw r;exact ⟨⟨w,cell hw⟩,r⟩
 ·refine lift fun g9 k9=>?_;refine ob14 (Option.isSome_iff_exists.mp (hcl e)) ?_;intro c hc;refine ob12 (L.cells _ c hc) ?_;intro w₀ bL hcn hcb;refine ob1 (id bL) ?_;intro oc hoc hocd
  apply k9
  clear k9 g9;have hoc':¬IsT oc:=fun ⟨_,_,_,q⟩=>by rw [hocd] at q;cases q
  refine wpAny_storeName_cell Ev.kind e hc bL fun h' hc' hs=>?_;have st:Step C (OwnAt env (Str.ofString x)) aa s aa { s with heap:=h' }:=Step.oneBut (t:=s.toks) R hs hcn hcb (.inr ⟨e,hc⟩) hoc hoc';refine ob14 L.locals ?_;intro m hm;have nsk:∀m,s.heap.Ns env.locals m->h'.Ns env.locals m:=fun m hm=>hm.sameBut hs fun q=>by
   refine ob10 hm ?_;clear hm;intro o es ep ho hod J;rw [q,hoc] at ho;cases ho;rw [hocd] at hod;cases hod
  have cell:∀{aM w},aM≠c->s.heap.IsCell aM w->h'.IsCell aM w:=fun {aM w} n hw=>hw.sameBut hs n;refine h _ st ⟨fun y j w hy hw=>?_,⟨m,nsk m hm⟩,L.lnew,fun y aM hc₁=>?_,L.apart⟩
  ·rcases other y j w hy hw with ⟨rfl,rfl⟩ |⟨ny,hw'⟩
   ·unfold Holds;rw [e];exact ⟨c,u,hc,hc',st.vr hv⟩
   ·exact (L.holds y j w hy hw').frame st.h.tup (fun J bE bp bz bu=>⟨bE,nsk _ bz,bu⟩) fun aM bp h1 h2=>cell (fun q=>ny (L.apart _ _ c (q▸h1) hc)) h2
  ·refine ob15 (L.cells y aM hc₁) ?_;intro w hw r
   by_cases q:aM=c
   ·subst q;exact ⟨⟨_,hc'⟩,r⟩
   ·exact ⟨⟨w,cell q hw⟩,r⟩
end
end Mine.Internal
end
section
namespace Mine.Internal
open PySem
structure Dead (h h':Heap):Prop where
 size:h.objs.size<=h'.objs.size
 dead:∀a,a<h.objs.size->h.get? a=none->h'.get? a=none
theorem Dead.refl {h:Heap}:Dead h h:=⟨qal _,fun J J e=>e⟩
theorem Dead.trans {ao aB aA:Heap} (x:Dead ao aB) (y:Dead aB aA):Dead ao aA:=⟨qak x.size y.size,fun a l e=>y.dead a (Nat.lt_of_lt_of_le l x.size) (x.dead a l e)⟩
theorem Dead.push {h:Heap} {o:Obj}:Dead h (h.push o):=⟨by rw [Heap.size_push];exact Nat.le_succ _,fun a l e=>by
 cases q:(h.push o).get? a with
 |none=>rfl
 |some o'=>
  refine ob16 (Heap.get?_some_iff.mp q) ?_;intro e1 e2;have hne:=Nat.ne_of_lt l;have:h.get? a=some o':=Heap.get?_some_iff.mpr ⟨by cases h;simpa [Heap.push,Array.getElem?_push,hne] using e1,e2⟩
  rw [e] at this;cases this⟩
theorem Dead.update {h:Heap} {a:Addr} {f:Obj->Obj} (ha:(h.get? a).isSome=true):Dead h (h.update a f):=⟨by rw [Heap.size_update];exact qal _,fun b J e=>by
 by_cases q:a=b
 ·subst q;rw [e] at ha;cases ha
 ·rw [Heap.get?_update_other _ _ q];exact e⟩
variable {M:Model} {s:Shared}
theorem zd0 {aK:Ctx} {p:Pos} {t:Sem PySem.Fin} {fs:List Frame} {s':Shared} {e:End} (h:Runs M aK p t fs s e s'):Dead s.heap s'.heap:=by
 induction h with
 |done |raise |yield=>exact .refl
 |update ha _ ih=>exact (Dead.update ha).trans ih
 |alloc _ ih=>exact Dead.push.trans ih
 |call _ _ i1 i2 |segRet _ _ i1 i2 |segGen _ _ i1 i2=>exact i1.trans i2
 |resumeFresh _ _ _ _ i1 i2 |resumeSuspended _ _ _ _ i1 i2=>exact i1.trans i2
 |segSuspGen _ _ _ _ i1 i2=>exact i1.trans i2
 |_=>assumption
theorem ziE {aK:Ctx} {p:Pos} {g:Nat} {r:Resume} {s':Shared} {res:GenResult} (h:Wakes M aK p g r s res s'):Dead s.heap s'.heap:=by
 unfold Wakes at h
 split at h
 ·exact h.elim
 ·split at h
  ·refine ob17 h ?_;clear h;intro e₁ ag hr J J ee4;subst ee4;exact (zd0 hr:Dead (s.setGen g .running).heap ag.heap)
  ·rw [h.2];exact .refl
  ·rw [h.2];exact .refl
 ·refine ob17 h ?_;clear h;intro e₁ ag hr J J ee5;subst ee5;exact (zd0 hr:Dead (s.setGen g .running).heap ag.heap)
 ·rw [h.2];exact .refl
 ·rw [h.2];exact .refl
theorem zm0 {α:Type} (M:Model) (aK:Ctx) (aw:Heap) (t:Sem α):∀(Q:α->Pos->Shared->Prop) (E:Value->Pos->Shared->Prop) (p:Pos) (s:Shared),Dead aw s.heap->Sem.wp M aK t Q E p s ->
  Sem.wp M aK t (fun a p' s'=>Dead aw s'.heap/\Q a p' s') (fun e p' s'=>Dead aw s'.heap/\E e p' s') p s:=by
 induction t with
 |pure a=>intro Q E p s hn h;exact ⟨hn,h⟩
 |raise e=>intro Q E p s hn h;exact ⟨hn,h⟩
 |unsupported _=>intro Q E p s J h;exact h
 |finish _=>intro Q E p s J h;exact h
 |rule _ k ih=>intro Q E p s hn h;exact ih () Q E p s hn h
 | «at» p' k ih=>intro Q E p s hn h;exact ih () Q E p' s hn h
 |load a _ k ih=>intro Q E p s hn h;obtain ⟨o,ho,h⟩:=h;exact ⟨o,ho,ih o Q E p s hn h⟩
 |update a _ f k ih=>intro Q E p s hn h;exact ⟨h.1,ih () Q E p _ (hn.trans (Dead.update h.1)) h.2⟩
 |loadIfAlive a k ih=>intro Q E p s hn h;exact ih _ Q E p s hn h
 |point _ k ih=>intro Q E p s hn h;exact ih () Q E p s hn h
 |register _ _=>intro Q E p s J h;exact h
 |alloc o k ih=>intro Q E p s hn h;exact ih _ Q E p _ (hn.trans Dead.push) h
 |fresh k ih=>intro Q E p s hn h;exact ih _ Q E p _ hn h
 |ask k ih=>intro Q E p s hn h;exact ih _ Q E p s hn h
 |choose src m k ih=>intro Q E p s hn h;exact ⟨h.1,ih _ Q E p _ hn h.2⟩
 |os q _ k ih=>intro Q E p s hn h;exact ih _ Q E p _ hn h
 |call c hd _ _ k ih=>intro Q E p s hn h;obtain ⟨r,s',hr,h⟩:=h;exact ⟨r,s',hr,ih r Q E p s' (hn.trans (zd0 hr)) h⟩
 |handled own k ih=>intro Q E p s hn h;exact ih _ Q E p s hn h
 |genState g k ih=>intro Q E p s hn h;obtain ⟨st,hs,h⟩:=h;exact ⟨st,hs,ih _ Q E p s hn h⟩
 |newGen c k ih=>intro Q E p s hn h;exact ih _ Q E p _ hn h
 |resume g r _ k ih=>intro Q E p s hn h;obtain ⟨res,s',hw,h⟩:=h;exact ⟨res,s',hw,ih res Q E p s' (hn.trans (ziE hw)) h⟩
 |yield _ _ _ _=>intro Q E p s J h;exact h
 |stack k ih=>intro Q E p s hn h;exact ih _ Q E p s hn h
 |fork _ _=>intro Q E p s J h;exact h
 |thread k ih=>intro Q E p s hn h;exact ih _ Q E p s hn h
 |await _ _ _ _ _=>intro Q E p s J h;exact h
theorem zez {α:Type} {A:Around} {t:Sem α} {Q:α->Shared->Prop} {E:Value->Shared->Prop}
  (h:wpAny M A t (fun a s'=>Dead s.heap s'.heap->Q a s') (fun e s'=>Dead s.heap s'.heap->E e s') s):wpAny M A t Q E s:=
 fun aK p aW=>Sem.wp_mono M aK t (fun J J J x=>x.2 x.1) (fun J J J x=>x.2 x.1) p s (zm0 M aK _ t _ _ p s .refl (h aK p aW))
theorem zav {α:Type} {A:Around} {s:Shared} {t:Sem α} {Q:α->Shared->Prop} {E:Value->Shared->Prop}
  (h:wpAny M A t (fun a s'=>s.heap.objs.size<=s'.heap.objs.size->Q a s') (fun e s'=>s.heap.objs.size<=s'.heap.objs.size->E e s') s):wpAny M A t Q E s:=
 zez (wpAny_mono h (fun J J x d=>x d.size) fun J J x d=>x d.size)
end Mine.Internal
end
section
namespace Mine.Internal
open PySem PySem.W PyProof.Rows PySem.SeqAt
section
variable {l b:Addr} {p q:Int×Int} {t u t' u':Tok} {n n2:Nat} {prog:Program} {w:World} {A:Around} {E:Value->Shared->Prop} {s:Shared}
theorem zmL {α:Type} {M:Model} {c:Bool} {X Y:Sem α} {Q:α->Shared->Prop} (h:c=false->wpAny M A X Q E s) (g:c=true->wpAny M A Y Q E s):wpAny M A (if (!c)=true then X else Y) Q E s:=by
 cases c with
 |false=>exact h rfl
 |true=>exact g rfl
theorem zm5 {P:PySem.Fin->Shared->Prop} (hl:s.heap.get? l=some (seqObj "tuple" #[.int p.1 t,.int p.2 u] n)) (hb:s.heap.get? b=some (seqObj "tuple" #[.int q.1 t',.int q.2 u'] n2))
  (h:P (.done (.ret (.bool (decide (p.1<q.1)||(p.1==q.1&&decide (p.2<q.2)))))) s):wpAny (model prog w) A (Builtin.«tuple.__lt__» ⟨[.ref l,.ref b],[]⟩) P E s:=by
 show wpAny _ _ (isInstance (.ref b) (.type "tuple") >>= _) _ _ s;refine qaa (wpAny_isInstance ⟨_,hb,rfl⟩ isSubtype_tuple_tuple ?_);refine qaa (wpAny_tupleItemsOf hl rfl (qaa (wpAny_tupleItemsOf hb rfl (qaa (qaa (qaa (wpAny_eqBool_int ?_)))))));refine zmL (fun e=>?_) fun e=>?_
 ·rw [e,Bool.false_and,Bool.or_false] at h;exact qaa (wpAny_rule (qaa (PyProof.Rows.lt_int (qaa (qab (qab (qab (qab h))))))))
 ·rw [e,Bool.true_and,beq_iff_eq.mp e,qai (Int.lt_irrefl _),Bool.false_or] at h;refine qab (qaa (qaa (wpAny_eqBool_int (zmL (fun e2=>?_) fun e2=>?_))))
  ·exact qaa (wpAny_rule (qaa (PyProof.Rows.lt_int (qaa (qab (qab (qab (qab h))))))))
  ·rw [beq_iff_eq.mp e2,qai (Int.lt_irrefl _)] at h;exact qab (qab (qab h))
theorem zm4 {Q:Value->Shared->Prop} (hl:s.heap.get? l=some (seqObj "tuple" #[.int p.1 t,.int p.2 u] n)) (hb:s.heap.get? b=some (seqObj "tuple" #[.int q.1 t',.int q.2 u'] n2)) (hu:A.units<cLine)
  (h:Q (.bool (decide (p.1<q.1)||(p.1==q.1&&decide (p.2<q.2)))) s):wpAny (model prog w) A (compareOp .Lt (.ref l) (.ref b)) Q E s:=
 wpAny_richCompare_same_room (op:=.Lt) ⟨_,hl,rfl⟩ ⟨_,hb,rfl⟩ F.slot_tuple_lt (wpAny_call_entry F.slot_tuple_lt ⟨_,hl,rfl⟩ F.entry_tuple_lt (zm5 hl hb ⟨_,rfl,(fun e=>nomatch e),h⟩) (F.args_tuple_lt_2 _ _)) hu
end
end Mine.Internal
end
section
namespace Mine.Internal
open PySem PySem.W PySem.Calls PyProof.Rows
variable {C:Cx} {aa:Store} {h:Heap} {a:Addr}
theorem Rel.none_of_ge (r:Rel C aa h) (ha:h.objs.size<=a):aa a=none:=by
 cases q:aa a with
 |none=>rfl
 |some o=>
  refine ob1 ((r.tr a o q).there) ?_;intro ob ho J;exact absurd (Heap.lt_size ho) (Nat.not_lt.mpr ha)
theorem za6 (r:Rel C aa h) (ha:h.objs.size<=a):C.base.get? a=none:=by
 cases q:C.base.get? a with
 |none=>rfl
 |some o=>exact absurd (Heap.lt_size (r.stays a o q)) (Nat.not_lt.mpr ha)
variable {o:AO}
theorem zcy:(aa.upd a o) a=some o:=if_pos rfl
theorem zbr {b:Addr} (h:b≠a):(aa.upd a o) b=aa b:=if_neg h
variable {h':Heap}
theorem Step.grow {s:Shared} {t:Nat} (r:Rel C aa s.heap) (k:∀b ob,s.heap.get? b=some ob->h'.get? b=some ob) (hs:s.heap.objs.size<=h'.objs.size) :
  Step C No aa s aa { s with heap:=h',toks:=t }:=
 ⟨.grow k hs,r.frame (fun a o q=>by obtain ⟨ob,ho,_⟩:=(r.tr a o q).there;rw [ho,k _ _ ho]) (fun a o e J=>k a o e) (fun a o e=>k a o (r.stays a o e)) hs,fun J x=>x,fun J x=>.inl x,rfl,rfl⟩
theorem Step.alloc {s:Shared} {t:Nat} (r:Rel C aa s.heap) (k:∀b ob,s.heap.get? b=some ob->h'.get? b=some ob) (hs:s.heap.objs.size<=h'.objs.size)
  (ha:s.heap.objs.size<=a) (hO:OR C.cls C.prog C.w h' a o):Step C No aa s (aa.upd a o) { s with heap:=h',toks:=t }:=by
 refine ⟨.grow k hs,⟨fun b ob e=>k b ob (r.stays b ob e),fun b ob q=>?_,fun b ob q=>?_,qak r.size hs⟩,fun b n=>?_,fun b n=>?_,rfl,rfl⟩
 ·by_cases e:b=a
  ·subst e;rw [zcy] at q;cases q;exact hO
  ·rw [zbr e] at q;refine ob1 ((r.tr b ob q).there) ?_;intro ob' ho J;exact (r.tr b ob q).keep (by rw [ho,k _ _ ho]) fun a o e J=>k a o e
 ·by_cases e:b=a
  ·subst e;exact .inl (qak r.size ha)
  ·rw [zbr e] at q;exact r.new b ob q
 ·by_cases e:b=a
  ·subst e;rw [zcy];simp
  ·rw [zbr e];exact n
 ·by_cases e:b=a
  ·subst e;exact .inr ha
  ·rw [zbr e] at n;exact .inl n
theorem Step.turn {s:Shared} {t:Nat} {bq:AO} (r:Rel C aa s.heap) (aw:aa a=some bq) (hf:∀vs,bq≠.fixed vs) (hs:Heap.SameBut a s.heap h') (hO:zaU s.heap h'->OR C.cls C.prog C.w h' a o) :
  Step C No aa s (aa.upd a o) { s with heap:=h',toks:=t }:=by
 refine ob6 ((r.tr a bq aw).there) ?_;intro ob₀ hob hnt J;have k:zaU s.heap h':=fun b ob e tc=>(hs.2 b fun q=>by subst q;rw [hob] at e;cases e;exact hnt tc).trans e
 have hbs:C.base.objs.size<=a:=(r.new a bq aw).elim id fun ⟨vs,e⟩=>absurd e (hf vs);have hb:C.base.get? a=none:=by
  cases q:C.base.get? a with
  |none=>rfl
  |some o=>exact absurd (Heap.lt_size q) (Nat.not_lt.mpr hbs)
 refine ⟨⟨Nat.le_of_eq hs.1.symm,fun b ob e n=>.inl ((hs.2 b fun q=>n (.inl (by rw [q,aw];simp))).trans e),k⟩,⟨fun b ob e=>(hs.2 b fun q=>by rw [q,hb] at e;cases e).trans (r.stays b ob e),fun b ob q=>?_,fun b ob q=>?_,qak r.size (Nat.le_of_eq hs.1.symm)⟩,
  fun b n=>?_,fun b n=>?_,rfl,rfl⟩
 ·by_cases e:b=a
  ·subst e;rw [zcy] at q;cases q;exact hO k
  ·rw [zbr e] at q;exact (r.tr b ob q).keep (hs.2 b e) k
 ·by_cases e:b=a
  ·subst e;exact .inl hbs
  ·rw [zbr e] at q;exact r.new b ob q
 ·by_cases e:b=a
  ·subst e;rw [zcy];simp
  ·rw [zbr e];exact n
 ·by_cases e:b=a
  ·subst e;exact .inl (by rw [aw];simp)
  ·rw [zbr e] at n;exact .inl n
theorem zch {n:Nat} (h:n<=zao):n<=sizeLine:=qak h (by decide)
theorem zat {v:V} {K:Addr->List V->Prop} (h:zaL aa v K):∃a vs,v=.ref a/\aa a=some (.list vs)/\K a vs:=by
 cases v with
 |ref a=>
  change (match aa a with |some (.list vs)=>K a vs |_=>False) at h
  cases e:aa a with
  |none=>rw [e] at h;exact h.elim
  |some o=>
   rw [e] at h;cases o with
   |list vs=>exact ⟨a,vs,rfl,e,h⟩
   |_=>exact h.elim
 |_=>exact h.elim
theorem zai {α:Type} {o:Option α} {K:α->Prop} (h:zam o K):∃a,o=some a/\K a:=by
 cases o with
 |none=>exact h.elim
 |some a=>exact ⟨a,rfl,h⟩
theorem zaM {v:V} {K:Int->Prop} (h:zbt v K):∃i,v=.int i/\K i:=by
 cases v<;>first |exact h.elim |exact ⟨_,rfl,h⟩
theorem zcM {v:V} {K:String->Addr->List (String×V)->Prop} (h:zeI aa v K):∃a c d fs,v=.ref a/\aa a=some (.inst c d)/\aa d=some (.ns fs)/\K c d fs:=by
 cases v with
 |ref a=>
  change (match aa a with |some (.inst c d)=>(match aa d with |some (.ns fs)=>K c d fs |_=>False) |_=>False) at h
  cases e:aa a with
  |none=>rw [e] at h;exact h.elim
  |some o=>
   rw [e] at h;cases o with
   |inst c d=>
    change (match aa d with |some (.ns fs)=>K c d fs |_=>False) at h
    cases e':aa d with
    |none=>rw [e'] at h;exact h.elim
    |some o=>
     rw [e'] at h;cases o with
     |ns fs=>exact ⟨a,c,d,fs,rfl,e,e',h⟩
     |_=>exact h.elim
   |_=>exact h.elim
 |_=>exact h.elim
variable {x:Value}
theorem VR.int_of {i:Int} (v:VR h (.int i) x):∃t,x=.int i t:=by cases v;exact ⟨_,rfl⟩
theorem VR.bool_of {b:Bool} (v:VR h (.bool b) x):x=.bool b:=by cases v;rfl
theorem VR.none_of (v:VR h .none x):x=.none:=by cases v;rfl
theorem VR.str_of {s:Str} (v:VR h (.str s) x):∃t,x=.str s t:=by cases v;exact ⟨_,rfl⟩
theorem VR.ref_of (v:VR h (.ref a) x):x=.ref a:=by cases v;rfl
theorem VR.tup_of {vs:List V} (v:VR h (.tup vs) x):∃a xs n,x=.ref a/\h.get? a=some (seqObj "tuple" xs.toArray n)/\VRs h vs xs:=by
 cases v with |tup e r=>exact ⟨_,_,_,rfl,e,r⟩
theorem Rel.list {C:Cx} {aa:Store} {h:Heap} (r:Rel C aa h) {a:Addr} {vs:List V} (e:aa a=some (.list vs)):∃xs n,IsL h a xs.toArray n/\VRs h vs xs/\vs.length<=zao:=r.tr a _ e
structure Room (C:Cx) (md:Bool) (A:Around):Prop where
 handled:md=true->A.handled=none
 depth:A.depth+3<990
 units:A.units+80<9000
section
variable {C:Cx} {A:Around} {E:Value->Shared->Prop} {aa:Store} {s:Shared} {Q:V->Store->Prop}
variable {v:V} {x:Value}
theorem PostV.now (r:Rel C aa s.heap) (q:Q v aa) (h:VR s.heap v x):PostV C aa s Q x s:=⟨v,aa,q,h,.refl r⟩
theorem PostV.tok {t:Nat} (r:Rel C aa s.heap) (q:Q v aa) (h:VR s.heap v x):PostV C aa s Q x { s with toks:=t }:=⟨v,aa,q,h,.toks r t⟩
variable {a:Addr}
theorem zbH {xs:List Value} {vs:List V} {h':Heap} {t n:Nat} (r:Rel C aa s.heap) (q:Mine.Internal.alloc aa (.list vs) Q) (k:∀b ob,s.heap.get? b=some ob->h'.get? b=some ob) (hs:s.heap.objs.size<=h'.objs.size)
  (ha:s.heap.objs.size<=a) (hO:h'.get? a=some (seqObj "list" xs.toArray n)) (hv:VRs s.heap vs xs) (hl:vs.length<=zao):PostV C aa s Q (.ref a) { s with heap:=h',toks:=t }:=
 ⟨.ref a,aa.upd a (.list vs),q a (r.none_of_ge ha),.ref,.alloc r k hs ha ⟨xs,n,hO,hv.keep fun b o e J=>k b o e,hl⟩⟩
theorem zad {h:Heap} {o:Obj}:∀b ob,h.get? b=some ob->(h.push o).get? b=some ob:=fun J J e=>Heap.get?_push_of_some _ e
variable {h:Heap}
theorem zaA {o:Obj}:h.objs.size<=(h.push o).objs.size:=by rw [Heap.size_push];exact Nat.le_succ _
set_option tactic.hygienic true in
theorem zjj {a:Int} (h:a.natAbs<2^32):Builtin.Int.intBits a<=64:=by
 unfold Builtin.Int.intBits
 split
 ·exact Nat.zero_le _
 ·rename_i q;have h0:a.natAbs≠0:=fun z=>q (by rw [Int.natAbs_eq_zero.mp z];rfl)
  have:=(Nat.log2_lt h0).mpr h
  lia
variable {u:V} {y:Value}
theorem zjb {K:Int->Int->Prop} {W:Value->Value->Prop} (hu:VR h u x) (hv:VR h v y) (q:onII u v K) (g:∀a b t t',K a b->W (.int a t) (.int b t')):W x y:=by
 cases hu<;>first |exact q.elim |skip;cases hv<;>first |exact q.elim |skip;exact g _ _ _ _ q
theorem zpt {op:Operator} (r:Rel C aa s.heap) (hu:VR s.heap u x) (hv:VR s.heap v y) (h:binV op u v aa Q) :
  wpAny C.M A (binaryOp op x y) (PostV C aa s Q) E s:=by
 cases op with
 |Add=>
  by_cases hr:∃a,u=.ref a
  ·refine ob14 hr ?_;clear hr;intro a ee6;subst ee6;have h:zaL aa (.ref a) fun J us=>zaL aa v fun J vs=>us.length+vs.length<=zao/\alloc aa (.list (us++vs)) Q:=h;refine ob2 (zat h) ?_;intro J us e ha h;cases e;refine lift fun g9 k9=>?_;refine ob17 (zat h) ?_;intro b vs ee7;subst ee7;intro hb hz h;cases hu.ref_of;cases hv.ref_of;refine ob2 (r.list ha) ?_;intro xs n hL hX J;refine ob2 (r.list hb) ?_;intro ys m hL' hY J
   apply k9
   clear k9 g9;have e1:=hX.length;have e2:=hY.length;refine P.add_list hL hL' ?_ (by simp only [List.size_toArray];exact zch (by lia))
   refine zbH (xs:=xs++ys) (n:=0) (t:=s.toks) r h zad zaA (qal _) ?_ (hX.append hY) (by simp;lia)
   rw [qax _ rfl];simp
  ·have h':onII u v fun a b=>Q (.int (a+b)) aa:=by
    cases u<;>first |exact h |exact absurd ⟨_,rfl⟩ hr
   exact zjb (W:=fun x y=>wpAny C.M A (binaryOp .Add x y) (PostV C aa s Q) E s) hu hv h' fun a b t t' h=>add_int (.tok r h .int)
 |Sub=>exact zjb (W:=fun x y=>wpAny C.M A (binaryOp .Sub x y) (PostV C aa s Q) E s) hu hv h fun a b t t' h=>sub_int' (.tok r h .int)
 |Mult=>
  by_cases hr:∃z,u=.str z
  ·refine ob14 hr ?_;clear hr;intro z ee8;subst ee8;have h:zbt v fun n=>(0<=n/\n<=1)/\Q (.str (if n=1 then z else Str.empty)) aa:=h
   refine ob14 hu.str_of ?_;intro t ee9;subst ee9;cases v with
   |int n=>
    refine ob14 hv.int_of ?_;intro t' ee10;subst ee10;have h:(0<=n/\n<=1)/\Q (.str (if n=1 then z else Str.empty)) aa:=h
    by_cases e:n=1
    ·subst e;exact P.mul_str (by decide) (fun J e=>Bool.noConfusion e) (fun J e=>Bool.noConfusion e) (show PostV C aa s Q _ s from .now r h.2 .str)
    ·rw [if_neg e] at h;exact P.mul_str_none (by lia) (by lia) (.tok r h.2 .str)
   |_=>exact h.elim
  ·have h':onII u v fun a b=>(a.natAbs<2^32/\b.natAbs<2^32)/\Q (.int (a*b)) aa:=by
    cases u<;>first |exact h |exact absurd ⟨_,rfl⟩ hr
   exact zjb (W:=fun x y=>wpAny C.M A (binaryOp .Mult x y) (PostV C aa s Q) E s) hu hv h' fun a b t t' h=>PyProof.Rows.mul_int (.tok r h.2 .int) (IntMulOk.of_left (zjj h.1.1))
 |FloorDiv=>exact zjb (W:=fun x y=>wpAny C.M A (binaryOp .FloorDiv x y) (PostV C aa s Q) E s) hu hv h fun a b t t' h=>PyProof.Rows.floordiv_int (Int.ne_of_gt h.1.1) (.tok r h.2 .int) (.inl (PyProof.noPylong_small (by lia)))
 |Mod=>exact zjb (W:=fun x y=>wpAny C.M A (binaryOp .Mod x y) (PostV C aa s Q) E s) hu hv h fun a b t t' h=>PyProof.Rows.mod_int' (Int.ne_of_gt h.1) (.tok r h.2 .int)
 |Pow=>
  refine zjb (W:=fun x y=>wpAny C.M A (binaryOp .Pow x y) (PostV C aa s Q) E s) hu hv h ?_;intro a b t t' h;refine ob18 h ?_;clear h;intro ee11;subst ee11;intro ee12;subst ee12;intro h;exact AutoIntOps.pow_4 (by decide) (by decide) (by decide) (by decide) (by decide) (.tok r h .int)
 |_=>exact h.elim
variable {n:Nat}
theorem zbw {a:Addr} {xs:List Value} (e:h.get? a=some (seqObj "tuple" xs.toArray n)):h.IsTuple a xs.toArray:=⟨_,e,rfl,n,rfl⟩
theorem zco {vs:List V} (r:Rel C aa s.heap) (e:aa a=some (.list vs)):∃xs,s.heap.IsList a xs.toArray/\VRs s.heap vs xs:=let ⟨xs,_,h1,h2,_⟩:=r.list e;⟨xs,h1.isList,h2⟩
theorem zeV {f:V->V->Option Bool}:∀{us vs:List V} {b:Bool},zbY f us vs=some b ->
  (∀j (h1:j<us.length) (h2:j<vs.length),∃c,f us[j] vs[j]=some c)/\b=((List.range (min us.length vs.length)).all (fun j=>((f (us.getD j .none) (vs.getD j .none)).getD false))&&us.length==vs.length)
 | [],[],b,e=>by cases e;exact ⟨fun j h=>absurd h (Nat.not_lt_zero j),rfl⟩
 |u::us,v::vs,b,e=>by
  change (match f u v,zbY f us vs with |some a,some b=>some (a&&b) |_,_=>none)=_ at e
  cases e1:f u v with
  |none=>rw [e1] at e;cases e
  |some a=>cases e2:zbY f us vs with
   |none=>rw [e1,e2] at e;cases e
   |some c=>
    rw [e1,e2] at e;cases e;refine ob16 (zeV e2) ?_;intro h1 h2;refine ⟨fun j j1 j2=>?_,?_⟩
    ·cases j with
     |zero=>exact ⟨a,e1⟩
     |succ j=>exact h1 j (by simpa using j1) (by simpa using j2)
    ·rw [List.length_cons,List.length_cons,Nat.succ_min_succ,List.range_succ_eq_map,List.all_cons,List.all_map];simp only [List.getD_cons_zero,e1,Option.getD_some,h2,Bool.and_assoc];simp [Function.comp_def]
 | [],_::_,b,e=>by cases e;exact ⟨fun j h=>absurd h (Nat.not_lt_zero j),rfl⟩
 |_::_,[],b,e=>by cases e;exact ⟨fun j J h=>absurd h (Nat.not_lt_zero j),rfl⟩
theorem VRs.at {h:Heap} {v:List V} {x:List Value} (r:VRs h v x) (j:Nat) (h1:j<v.length) (h2:j<x.length):VR h v[j] x[j]:=by
 refine ob1 (r.get (qas h1)) ?_;intro b e q;rw [qas h2] at e;cases e;exact q
inductive EqB:V->V->Bool->Prop
 |none:EqB .none .none true
 |bb {a b}:EqB (.bool a) (.bool b) (a==b)
 |ii {a b}:EqB (.int a) (.int b) (a==b)
 |ss {a b}:EqB (.str a) (.str b) (a==b)
inductive EqC (aa:Store):Nat->V->V->Bool->Prop
 |b {n u v b}:EqB u v b->EqC aa n u v b
 |tt {n us vs b}:zbY (eqv aa n) us vs=some b->EqC aa (n+1) (.tup us) (.tup vs) b
 |rr {n a b us vs c}:aa a=some (.list us)->aa b=some (.list vs)->us.length=vs.length->zbY (eqv aa n) us vs=some c->EqC aa (n+1) (.ref a) (.ref b) c
 |rl {n a b us vs}:aa a=some (.list us)->aa b=some (.list vs)->us.length≠vs.length->EqC aa (n+1) (.ref a) (.ref b) false
theorem zar {α:Type} {a:α} {G:Prop} (h:none=some a):G:=by cases h
variable {b:Bool}
theorem zkD (e:eqB u v=some b):EqB u v b:=by
 cases u with
 |none=>cases v with
  |none=>cases e;exact .none
  |_=>exact zar e
 |bool a=>cases v with
  |bool b=>cases e;exact .bb
  |_=>exact zar e
 |int a=>cases v with
  |int b=>cases e;exact .ii
  |_=>exact zar e
 |str a=>cases v with
  |str b=>cases e;exact .ss
  |_=>exact zar e
 |_=>exact zar e
variable {us:List V}
theorem zgB {o:Option AO} (e:asL o=some us):o=some (.list us):=by
 cases o with
 |none=>exact zar e
 |some o=>cases o with
  |list vs=>cases e;rfl
  |_=>exact zar e
theorem zpm (e:eqv aa n u v=some b):EqC aa n u v b:=by
 cases n with
 |zero=>exact .b (zkD e)
 |succ n=>cases u with
  |tup us=>cases v with
   |tup vs=>exact .tt e
   |_=>exact zar e
  |ref a=>cases v with
   |ref c=>
    refine ob1 (Option.bind_eq_some_iff.mp e) ?_;intro us h1 e;refine ob1 (Option.bind_eq_some_iff.mp e) ?_;intro vs h2 e
    by_cases hl:us.length=vs.length
    ·rw [if_pos hl] at e;exact .rr (zgB h1) (zgB h2) hl e
    ·rw [if_neg hl] at e;cases e;exact .rl (zgB h1) (zgB h2) hl
   |_=>exact zar e
  |_=>exact .b (zkD e)
theorem zhI {xs ys:List Value} {m:Nat} (q1:h.get? a=some (seqObj "tuple" xs.toArray n)) (q2:h.get? a=some (seqObj "tuple" ys.toArray m)):xs=ys:=by
 rw [q1] at q2
 injection q2 with q2
 have:=congrArg Obj.data q2
 injection this with this _
 exact congrArg Array.toList this
theorem zky {j:Nat} (h:j<us.length):us.getD j .none=us[j]:=by simp [h]
open PySem.SeqAt in
theorem zeh {A:Around} {s:Shared} {l b:Addr} {k:Bool} (hs:l=b->k=true) (h:RcAt A s (.ref l) (.ref b) k):EqAt A s (.ref l) (.ref b) k:=by
 by_cases q:l=b
 ·subst q;rw [hs rfl];exact .same _
 ·exact .of_refs q h
open PySem.SeqAt in
theorem zmT {A:Around} (hu:VR s.heap u x) (hv:VR s.heap v y) (e:EqB u v b):EqAt A s x y b/\RcAt A s x y b/\RcNeAt A s x y (!b)/\(x=y->b=true):=by
 cases e with
 |none=>rw [hu.none_of,hv.none_of];exact ⟨.same _,.none_none,.none_none,fun J=>rfl⟩
 |bb=>rw [hu.bool_of,hv.bool_of];exact ⟨.bool_bool _ _,.bool_bool _ _,.bool_bool _ _,fun q=>by rw [Value.bool.inj q];exact beq_self_eq_true _⟩
 |ii=>
  refine ob14 hu.int_of ?_;intro t ee13;subst ee13;refine ob14 hv.int_of ?_;intro t' ee14;subst ee14;exact ⟨.int_int _ _ _ _,.int_int _ _ _ _,.int_int _ _ _ _,fun q=>by rw [(Value.int.inj q).1];exact beq_self_eq_true _⟩
 |ss=>
  refine ob14 hu.str_of ?_;intro t ee15;subst ee15;refine ob14 hv.str_of ?_;intro t' ee16;subst ee16;exact ⟨.str_str _ _ _ _,.str_str _ _ _ _,.str_str _ _ _ _,fun q=>by rw [(Value.str.inj q).1];exact beq_self_eq_true _⟩
open PySem.SeqAt in
theorem zid:∀(n:Nat) {A:Around} {u v:V} {x y:Value} {b:Bool},Rel C aa s.heap->A.units+n<cLine->VR s.heap u x->VR s.heap v y->eqv aa n u v=some b->EqAt A s x y b/\RcAt A s x y b/\RcNeAt A s x y (!b)/\(x=y->b=true):=by
 intro n
 induction n with
 |zero=>
  intro A u v x y b r hA hu hv e;exact zmT hu hv (zkD e)
 |succ n ih=>
  intro A u v x y b r hA hu hv e;have hA1:A.in1.units+n<cLine:=show A.units+1+n<cLine from Nat.add_right_comm A.units 1 n▸hA;have hA0:A.units<cLine:=Nat.lt_of_le_of_lt (Nat.le_add_right _ _) hA;clear hA;have els:∀{us vs:List V} {xs ys:List Value} {b:Bool},VRs s.heap us xs->VRs s.heap vs ys->zbY (eqv aa n) us vs=some b ->
    (∀j (h1:j<xs.toArray.size) (h2:j<ys.toArray.size),EqAt A.in1 s xs.toArray[j] ys.toArray[j] ((eqv aa n (us.getD j .none) (vs.getD j .none)).getD false))/\b=((List.range (min xs.toArray.size ys.toArray.size)).all (fun j=>((eqv aa n (us.getD j .none) (vs.getD j .none)).getD false))&&xs.toArray.size==ys.toArray.size)/\(xs=ys->b=true):=by
   intro us vs xs ys b hX hY e;refine ob16 (zeV e) ?_;intro h1 h2;have lx:=hX.length;have ly:=hY.length;have one:∀j (j1:j<xs.length) (j2:j<ys.length),∃c,(eqv aa n (us.getD j .none) (vs.getD j .none)).getD false=c/\EqAt A.in1 s xs[j] ys[j] c/\(xs[j]=ys[j]->c=true):=fun j j1 j2=>by
    refine ob14 (h1 j (lx▸j1) (ly▸j2)) ?_;intro c hc;have q:=ih (A:=A.in1) r hA1 (hX.at j (lx▸j1) j1) (hY.at j (ly▸j2) j2) hc;refine ⟨c,?_,q.1,q.2.2.2⟩;rw [zky (lx▸j1),zky (ly▸j2),hc];rfl
   refine ⟨fun j j1 j2=>?_,by rw [h2,List.size_toArray,List.size_toArray,lx,ly],fun q=>?_⟩
   ·refine ob6 (one j j1 j2) ?_;intro c e q J;rw [e];exact q
   ·subst q;rw [h2,lx,ly,beq_self_eq_true,Bool.and_true,Nat.min_self,List.all_eq_true];intro j hj;refine ob6 (one j (List.mem_range.mp hj) (List.mem_range.mp hj)) ?_;intro c e J q;exact e.trans (q rfl)
  cases zpm e with
  |b e=>exact zmT hu hv e
  | @rr _ a c us vs _ h1 h2 hl e'=>
   cases hu;cases hv;refine lift fun g9 k9=>?_;refine ob1 (zco r h1) ?_;intro xs hx hX;refine ob1 (zco r h2) ?_;intro ys hy hY;refine ob19 (els hX hY e') ?_;intro k1 k2 J
   apply k9
   clear k9 g9;have hs:a=c->b=true:=fun q=>by
    subst q;have:=h1.symm.trans h2;cases this;exact (els hX hX e').2.2 rfl
   have hsz:xs.toArray.size=ys.toArray.size:=by rw [List.size_toArray,List.size_toArray,←hX.length,←hY.length,hl]
   have R1:=RcAt.lists (A:=A) hx hy hsz hA0 k1;have R2:=RcNeAt.lists (A:=A) hx hy hsz hA0 k1;rw [←hsz,Nat.min_self,beq_self_eq_true,Bool.and_true] at k2;rw [←k2] at R1 R2;exact ⟨zeh hs R1,R1,R2,fun q=>hs (Value.ref.inj q)⟩
  | @rl _ a c us vs h1 h2 hl=>
   cases hu;cases hv;refine ob1 (zco r h1) ?_;intro xs hx hX;refine ob1 (zco r h2) ?_;intro ys hy hY;have hs:a=c->false=true:=fun q=>by
    subst q;have:=h1.symm.trans h2;cases this;exact absurd rfl hl
   have hsz:(xs.toArray.size != ys.toArray.size)=true:=by rw [List.size_toArray,List.size_toArray,←hX.length,←hY.length];exact bne_iff_ne.mpr hl
   have R1:=RcAt.lists_lengths (A:=A) hx hy hsz hA0;exact ⟨zeh hs R1,R1,RcNeAt.lists_lengths (A:=A) hx hy hsz hA0,fun q=>hs (Value.ref.inj q)⟩
  |tt e'=>
   cases hu with |tup q1 hX=>cases hv with |tup q2 hY=>
   refine ob19 (els hX hY e') ?_;intro k1 k2 k3;have R1:=RcAt.tuples (A:=A) (zbw q1) (zbw q2) hA0 k1;have R2:=RcNeAt.tuples (A:=A) (zbw q1) (zbw q2) hA0 k1;rw [←k2] at R1 R2;exact ⟨zeh (fun q=>k3 (zhI q1 (q▸q2))) R1,R1,R2,fun q=>k3 (zhI q1 (Value.ref.inj q▸q2))⟩
theorem zh4 {x:V}:∀{ys:List V} {b:Bool},memV aa x ys=some b->(∀y∈ys,∃c,eqv aa fuel y x=some c)/\(b=true↔∃y∈ys,eqv aa fuel y x=some true)
 | [],b,e=>by cases e;exact ⟨fun J h=>absurd h qam,fun h=>Bool.noConfusion h,fun ⟨_,h,_⟩=>absurd h qam⟩
 |y::ys,b,e=>by
  replace e:(match eqv aa fuel y x,memV aa x ys with |some a,some b=>some (a||b) |_,_=>none)=some b:=e
  cases e1:eqv aa fuel y x with
  |none=>rw [e1] at e;cases e
  |some a=>cases e2:memV aa x ys with
   |none=>rw [e1,e2] at e;cases e
   |some c=>
    rw [e1,e2] at e;cases e;refine ob16 (zh4 e2) ?_;intro h1 h2;refine ⟨List.forall_mem_cons.mpr ⟨⟨a,e1⟩,h1⟩,?_⟩;rw [Bool.or_eq_true,h2];exact ⟨fun h=>h.elim (fun h=>⟨y,qaj,e1.trans (congrArg some h)⟩) fun ⟨z,hz,q⟩=>⟨z,qag _ hz,q⟩,fun ⟨z,hz,q⟩=>(qad.mp hz).elim (fun h=>.inl (Option.some.inj (e1.symm.trans (h▸q)))) fun h=>.inr ⟨z,h,q⟩⟩
theorem VRs.mem {v:List V} {x:List Value} (r:VRs h v x) (y:Value) (hy:y∈x):∃u∈v,VR h u y:=
 r.ind (P:=fun v x=>y∈x->∃u∈v,VR h u y) (fun e=>absurd e qam) (fun a J ih e=>by
  rcases qad.mp e with rfl |e
  ·exact ⟨_,qaj,a⟩
  ·refine ob1 (ih e) ?_;intro u h1 h2;exact ⟨u,qag _ h1,h2⟩) hy
theorem VRs.mem' {v:List V} {x:List Value} (r:VRs h v x) (u:V) (hu:u∈v):∃y∈x,VR h u y:=
 r.ind (P:=fun v x=>u∈v->∃y∈x,VR h u y) (fun e=>absurd e qam) (fun a J ih e=>by
  rcases qad.mp e with rfl |e
  ·exact ⟨_,qaj,a⟩
  ·refine ob1 (ih e) ?_;intro y h1 h2;exact ⟨y,qag _ h1,h2⟩) hu
open PySem.SeqAt in
theorem zh3 {x:V} {xs:List Value} (r:Rel C aa s.heap) (hA:A.units+8<cLine) (hx:VR s.heap x y) (hX:VRs s.heap us xs) (e:memV aa x us=some b) :
  ∃t:Value->Bool,(∀z,z∈xs.toArray->EqAt A.in1 s z y (t z))/\xs.toArray.any t=b:=by
 classical
 refine ob16 (zh4 e) ?_;intro h1 h2;have ok:∀{u:V} {z:Value} {c:Bool},VR s.heap u z->eqv aa fuel u x=some c->EqAt A.in1 s z y c:=fun hv hc=>(zid (A:=A.in1) fuel r (show A.units+7<cLine from Nat.lt_of_succ_lt hA) hv hx hc).1;have g:∀z,z∈xs.toArray->∃c,EqAt A.in1 s z y c/\(c=true->b=true):=fun z hz=>by
  refine ob1 (hX.mem z (by simpa using hz)) ?_
  intro u hu hv;refine ob14 (h1 u hu) ?_;intro c hc;exact ⟨c,ok hv hc,fun q=>h2.mpr ⟨u,hu,q▸hc⟩⟩
 cases b with
 |false=>
  refine ⟨fun J=>false,fun z hz=>?_,by simp⟩
  refine ob1 (g z hz) ?_;intro c q k;cases c with
  |false=>exact q
  |true=>exact Bool.noConfusion (k rfl)
 |true=>
  refine ob1 (h2.mp rfl) ?_;intro u hu q;refine ob1 (hX.mem' u hu) ?_;intro z hz hv;refine ⟨fun z=>decide (EqAt A.in1 s z y true),fun z hz=>?_,Array.any_eq_true'.mpr ⟨z,by simpa using hz,qaf (ok hv q)⟩⟩
  by_cases p:EqAt A.in1 s z y true
  ·dsimp only;rw [qaf p];exact p
  ·dsimp only;rw [qai p];refine ob1 (g z hz) ?_;intro c q J;cases c with
   |false=>exact q
   |true=>exact absurd q p
theorem zgR (hl:C.base.NoLimit):2<C.base.objs.size:=by
 refine ob1 hl ?_;clear hl;intro mc h J;exact h.lt
variable {prog:Program} {w:World} {ks:List V}
theorem KR.ints (x:KR prog w h a ks) (hk:ks.all zc9=true):∃ns:List Int,ks=ns.map V.int/\h.DictOf (intKind prog w) a (ns.map fun n=>(n,Value.bool true)):=by
 rcases x with x |⟨ps,rfl,o,es,ep,h1,h2,h3,h4,h5,h6⟩
 ·exact x
 ·cases ps with
  |nil=>
   refine ⟨[],rfl,o,es,ep,h1,h2,h3,fun e he=>?_,?_,.nil⟩
   ·have:es.toList=[]:=h4;rw [←Array.mem_toList_iff,this] at he;cases he
   ·have:es.toList=[]:=h4;rw [this];exact .nil
  |cons p r=>simp [zc9] at hk
theorem KR.pairs (x:KR prog w h a ks) (hk:ks.all zff=true) :
  ∃ps:List ((Int×Int)×Addr),ks=ps.map (fun p=>V.tup [.int p.1.1,.int p.1.2])/\h.DictOfH (tupleKind (intKind prog w)) a (ps.map fun p=>([p.1.1,p.1.2],p.2,Value.bool true)):=by
 rcases x with ⟨ns,rfl,o,es,ep,h1,h2,h3,h4,h5,h6⟩ |x
 ·cases ns with
  |nil=>
   refine ⟨[],rfl,o,es,ep,h1,h2,h3,?_,fun x hx=>(by cases hx),.nil⟩
   have:=h5.length;simp only [List.map_nil,List.length_nil] at this;rw [List.eq_nil_of_length_eq_zero this];rfl
  |cons p r=>exact Bool.noConfusion hk
 ·exact x
theorem zaZ (i:Int) (t:Tok):Value.isInt i (.int i t)=true:=by simp [Value.isInt]
theorem zcS (i:Int) (ns:List Int):zbK (.int i) (ns.map V.int)=ns.contains i:=by
 induction ns with
 |nil=>rfl
 |cons n r ih=>
  have ih':(List.map V.int r).any (fun x=>zhd x (.int i))=r.contains i:=ih;rw [zbK,List.map_cons,List.any_cons,ih',List.contains_cons];show ((n==i)||_)=_;rw [Bool.beq_comm]
theorem zfI (i:Int) (ns:List Int):(valueAt (ns.map fun n=>(n,Value.bool true)) i).isSome=ns.contains i:=by
 induction ns with
 |nil=>rfl
 |cons n r ih=>
  unfold valueAt at ih ⊢;rw [List.map_cons,List.find?_cons,List.contains_cons]
  by_cases e:n=i
  ·subst e;simp
  ·simp only [e,decide_false,ih];have:(i==n)=false:=by simp [Ne.symm e]
   rw [this,Bool.false_or]
theorem zcq (i j:Int) (ps:List ((Int×Int)×Addr)):zbK (.tup [.int i,.int j]) (ps.map fun p=>V.tup [.int p.1.1,.int p.1.2])=(ps.map (·.1)).contains (i,j):=by
 induction ps with
 |nil=>rfl
 |cons n r ih=>
  have ih':(List.map (fun p:(Int×Int)×Addr=>V.tup [.int p.1.1,.int p.1.2]) r).any (fun x=>zhd x (.tup [.int i,.int j]))=(r.map (·.1)).contains (i,j):=ih;rw [zbK,List.map_cons,List.any_cons,ih',List.map_cons,List.contains_cons]
  congr 1
  show (n.1.1==i&&n.1.2==j)=_;rw [Bool.eq_iff_iff];simp only [qae,beq_iff_eq,Prod.ext_iff];exact ⟨fun ⟨a,b⟩=>⟨a.symm,b.symm⟩,fun ⟨a,b⟩=>⟨a.symm,b.symm⟩⟩
theorem zeq (i j:Int) (ps:List ((Int×Int)×Addr)):(atKey (ps.map fun p=>([p.1.1,p.1.2],p.2,Value.bool true)) [i,j]).isSome=(ps.map (·.1)).contains (i,j):=by
 induction ps with
 |nil=>rfl
 |cons n r ih=>
  unfold atKey at ih ⊢;rw [List.map_cons,List.find?_cons,List.map_cons,List.contains_cons]
  by_cases e:n.1=(i,j)
  ·have:[n.1.1,n.1.2]=[i,j]:=by rw [e]
   simp [e]
  ·have h1:¬[n.1.1,n.1.2]=[i,j]:=fun q=>e (by injection q with q1 q2;injection q2 with q2 _;exact Prod.ext q1 q2)
   have h2:((i,j)==n.1)=false:=beq_eq_false_iff_ne.mpr (Ne.symm e);rw [h2,Bool.false_or,←ih];simp only [h1,decide_false]
theorem zfy {p:Int×Int} (h:asP v=some p):v=.tup [.int p.1,.int p.2]:=by
 cases v with
 |tup vs=>cases vs with
  |nil=>exact zar h
  |cons a r=>cases a with
   |int i=>cases r with
    |nil=>exact zar h
    |cons b r=>cases b with
     |int j=>cases r with
      |nil=>cases h;rfl
      |cons _ _=>exact zar h
     |_=>exact zar h
   |_=>exact zar h
 |_=>exact zar h
theorem zdz (h:zff v=true):∃i j,v=.tup [.int i,.int j]:=by
 refine ob14 (Option.isSome_iff_exists.mp h) ?_;intro p hp;exact ⟨_,_,zfy hp⟩
theorem zcR (h:zc9 v=true):∃i,v=.int i:=by
 cases v<;>first |exact Bool.noConfusion h |exact ⟨_,rfl⟩
theorem VR.pair_of {i j:Int} (v:VR h (.tup [.int i,.int j]) x):∃a n t u,x=.ref a/\h.get? a=some (seqObj "tuple" [Value.int i t,Value.int j u].toArray n):=by
 refine lift fun g9 k9=>?_;refine ob10 v.tup_of ?_;intro a xs n ee17;subst ee17;intro e r;refine ob2 r.two_of ?_;intro y z ee18;subst ee18;intro p q;refine ob14 p.int_of ?_;intro t ee19;subst ee19;refine ob14 q.int_of ?_;intro u ee20;subst ee20
 apply k9
 clear k9 g9;exact ⟨a,n,t,u,rfl,e⟩
theorem zjY {i j:Int} {t u:Tok} (e:h.get? a=some (seqObj "tuple" [Value.int i t,Value.int j u].toArray n)):IsTupleKey (intKind prog w) h [i,j] a:=
 ⟨_,_,n,e,rfl,rfl,.cons (zaZ i t) (.cons (zaZ j u) .nil)⟩
theorem zcT {d:Addr} (r:Rel C aa s.heap) (hl:C.base.NoLimit) (e:aa d=some (.dict ks)):(d==sysModules)=false:=by
 have h2:=zgR hl
 rcases r.new d _ e with q |⟨vs,q⟩
 ·exact beq_eq_false_iff_ne.mpr fun z=>by rw [z] at q;simp only [sysModules] at q;lia
 ·cases q
variable {K:Value->Shared->Prop}
theorem zks {x:V} {d:Addr} (hl:C.base.NoLimit) (hA:A.units+8<cLine) (r:Rel C aa s.heap) (e:aa d=some (.dict ks)) (hx:VR s.heap x y) (hk:zbJ (x::ks)=true)
  (h:∀t,K (.bool (zbK x ks)) { s with toks:=t }):wpAny C.M A (compareOp .In y (.ref d)) K E s:=by
 refine ob16 (r.tr d _ e) ?_;intro hK J;unfold zbJ at hk
 rcases Bool.or_eq_true_iff.mp hk with q |q
 ·simp only [List.all_cons,qae] at q;refine lift fun g9 k9=>?_;refine ob14 (zcR q.1) ?_;intro i ee21;subst ee21;refine ob14 hx.int_of ?_;intro t ee22;subst ee22;refine ob1 (hK.ints q.2) ?_;intro ns ee23;subst ee23;intro hd
  apply k9
  clear k9 g9;refine wpAny_in_of (knd:=intKind C.prog C.w) (zaZ i t) (zcT r hl e) hd.mapOf ?_;rw [zfI,←zcS];exact h _
 ·simp only [List.all_cons,qae] at q;refine lift fun g9 k9=>?_;refine ob20 (zdz q.1) ?_;intro i j ee24;subst ee24;refine ob21 hx.pair_of ?_;intro a n t u ee25;subst ee25;intro ha;refine ob1 (hK.pairs q.2) ?_;intro ps ee26;subst ee26;intro hd
  apply k9
  clear k9 g9;refine wpAny_in_heap (knd:=tupleKind (intKind C.prog C.w)) (tupleKind_room_in1 (by lia)) (zjY ha) (zcT r hl e) hd ?_
  rw [zeq,←zcq];exact h _
theorem zg6 {M:Model} (h:wpAny M A (compareOp .In x y) (fun v s'=>∃c,v=.bool c/\K (.bool (!c)) s') E s):wpAny M A (compareOp .NotIn x y) K E s:=by
 have h':wpAny M A (contains y x) (fun c s'=>K (.bool (!c)) s') E s:=fun aK p aW=>by
  have:=h aK p aW;have e:compareOp .In x y=(contains y x >>= fun b=>pure (Value.bool b)):=rfl;rw [e,Sem.wp_bind'] at this;refine Sem.wp_mono M aK _ (fun c p' s' q=>?_) (fun J J J q=>q) p s this;refine ob1 q ?_;clear q;intro c' q1 q2;cases q1;exact q2
 show wpAny M A (do return .bool (!(←contains y x))) K E s
 exact qaa (wpAny_mono h' (fun c s' q=>qab q) fun J J q=>q)
theorem zfs {f:Int->Int->Bool} {W:Value->Value->Prop} (hu:VR h u x) (hv:VR h v y) (e:zht u v f=some b) (g:∀i j t t',b=f i j->W (.int i t) (.int j t')):W x y:=by
 cases hu<;>first |(cases e;done) |skip;cases hv<;>first |(cases e;done) |skip;exact g _ _ _ _ (Option.some.inj e).symm
theorem zoX {W:Value->Value->Prop} (hu:VR h u x) (hv:VR h v y) (e:ltP u v=some b) (g:∀i j t t',b=decide (i<j)->W (.int i t) (.int j t'))
  (g2:∀(a c:Addr) (p q:Int×Int) (t u t' u':Tok) (n n2:Nat),h.get? a=some (seqObj "tuple" #[.int p.1 t,.int p.2 u] n)->h.get? c=some (seqObj "tuple" #[.int q.1 t',.int q.2 u'] n2)->b=(decide (p.1<q.1)||(p.1==q.1&&decide (p.2<q.2)))->W (.ref a) (.ref c)):W x y:=by
 cases hp:asP u with
 |none=>rw [ltP,hp] at e;exact zfs hu hv e g
 |some p=>cases hq:asP v with
  |none=>rw [ltP,hp,hq] at e;exact zfs hu hv e g
  |some q=>
   rw [ltP,hp,hq] at e;rw [zfy hp] at hu;rw [zfy hq] at hv;refine ob21 hu.pair_of ?_;intro a n t u ee27;subst ee27;intro ha;refine ob21 hv.pair_of ?_;intro c n2 t' u' ee28;subst ee28;intro hb;exact g2 a c p q t u t' u' n n2 ha hb (Option.some.inj e).symm
theorem zkp {W:Value->Value->Prop} (hu:VR h u x) (hv:VR h v y) (e:isNo u v=some b) (g:∀x,PySem.plainIs x .none=true->b=(x==.none)->W x .none):W x y:=by
 cases v with
 |none=>
  cases hv.none_of;cases hu<;>exact g _ rfl (Option.some.inj e).symm
 |_=>exact zar e
theorem zeX {op:CmpOp} (hl:C.base.NoLimit) (hA:A.units+16<cLine) (r:Rel C aa s.heap) (hu:VR s.heap u x) (hv:VR s.heap v y) (e:cmpV aa op u v=some b)
  (h:∀t,K (.bool b) { s with toks:=t }):wpAny C.M A (compareOp op x y) K E s:=by
 have hin:∀{u v:V} {x y:Value} {b:Bool} {K:Value->Shared->Prop},VR s.heap u x->VR s.heap v y->inV aa u v=some b->(∀t,K (.bool b) { s with toks:=t })->wpAny C.M A (compareOp .In x y) K E s:=by
  intro u v x y b K hu hv e h;cases v with
  |tup vs=>
   refine ob10 hv.tup_of ?_;intro a xs n ee29;subst ee29;intro ha hX;refine ob1 (zh3 (A:=A) r (Nat.lt_of_le_of_lt (Nat.add_le_add_left (by decide) _) hA) hu hX e) ?_
   intro t h1 h2;exact PySem.SeqAt.in_tupleAt t (zbw ha) h1 (by rw [h2];exact h s.toks)
  |ref a=>
   cases hv.ref_of
   replace e:(match aa a with |some (.list vs)=>memV aa u vs |some (.dict ks)=>if zbJ (u::ks) then some (zbK u ks) else none |_=>none)=some b:=e
   cases hs:aa a with
   |none=>rw [hs] at e;cases e
   |some o=>
    rw [hs] at e;cases o with
    |list vs=>
     refine ob1 (zco r hs) ?_;intro xs hL hX;refine ob1 (zh3 (A:=A) r (Nat.lt_of_le_of_lt (Nat.add_le_add_left (by decide) _) hA) hu hX e) ?_
     intro t h1 h2;exact PySem.SeqAt.in_listAt t hL h1 (by rw [h2];exact h s.toks)
    |dict ks=>
     by_cases hk:zbJ (u::ks)=true
     ·replace e:=(if_pos hk).symm.trans e
      cases e;exact zks hl (by lia) r hs hu hk h
     ·exact zar ((if_neg hk).symm.trans e)
    |_=>exact zar e
  |_=>exact zar e
 have hi:∀{op:CmpOp} {f:Int->Int->Bool},zht u v f=some b->(∀i j t t',b=f i j->wpAny C.M A (compareOp op (.int i t) (.int j t')) K E s)->wpAny C.M A (compareOp op x y) K E s:=
  fun {op} {_} e g=>zfs (W:=fun x y=>wpAny C.M A (compareOp op x y) K E s) hu hv e g
 cases op with
 |Eq=>exact (zid fuel r (Nat.lt_of_le_of_lt (Nat.add_le_add_left (by decide) _) hA) hu hv e).2.1 _ _ _ _ (h s.toks)
 |NotEq=>
  refine ob1 (Option.map_eq_some_iff.mp e) ?_;intro c hc ee30;subst ee30;exact (zid fuel r (Nat.lt_of_le_of_lt (Nat.add_le_add_left (by decide) _) hA) hu hv hc).2.2.1 _ _ _ _ (h s.toks)
 |Lt=>
  refine zoX (W:=fun x y=>wpAny C.M A (compareOp .Lt x y) K E s) hu hv e (fun i j t t' e=>PyProof.Rows.lt_int (e▸h s.toks)) fun a b p q t u t' u' n n2 ha hb e=>?_;exact zm4 ha hb (by lia) (e▸h s.toks)
 |LtE=>exact hi e fun i j t t' e=>PyProof.Rows.le_int (e▸h s.toks)
 |Gt=>exact hi e fun i j t t' e=>PyProof.Rows.gt_int (e▸h s.toks)
 |GtE=>exact hi e fun i j t t' e=>PyProof.Rows.ge_int (e▸h s.toks)
 |Is=>exact zkp (W:=fun x y=>wpAny C.M A (compareOp .Is x y) K E s) hu hv e fun x hx e=>wpAny_is_plain hx (e▸h s.toks)
 |IsNot=>
  refine ob1 (Option.map_eq_some_iff.mp e) ?_;intro c hc ee31;subst ee31;exact zkp (W:=fun x y=>wpAny C.M A (compareOp .IsNot x y) K E s) hu hv hc fun x hx e=>wpAny_isNot_plain hx (e▸h s.toks)
 |In=>exact hin hu hv e h
 |NotIn=>
  refine ob1 (Option.map_eq_some_iff.mp e) ?_;intro c hc ee32;subst ee32;exact zg6 (hin hu hv hc fun t=>⟨c,rfl,h t⟩)
end
section
variable {C:Cx} {A:Around} {E:Value->Shared->Prop} {aa:Store} {s:Shared} {Q:V->Store->Prop}
theorem zdR {u:V} {x:Value} {b:Bool} {K:Bool->Shared->Prop} (hu:VR s.heap u x) (e:Mine.Internal.truthy aa u=some b) (h:K b s):wpAny C.M A (PySem.truthy x) K E s:=by
 cases hu with
 |none=>cases e;exact PyProof.Rows.truthy_none h
 |bool=>cases e;exact wpAny_truthy_bool h
 |int=>cases e;exact PyProof.Rows.truthy_int h
 |_=>exact zar e
noncomputable def tyV:Ty->Option Value
 |.int=>some (.type "int") |.bool=>some (.type "bool") |.tuple=>some (.type "tuple") |.list=>some (.type "list") |.str=>some (.type "str")
 |.cls _=>none
open PySem.IsiPair in
theorem znL {u:V} {x c:Value} {t:Ty} {b:Bool} {K:Value->Shared->Prop} (r:Rel C aa s.heap) (hu:VR s.heap u x) (ht:tyV t=some c) (e:zdA aa u t=some b) (h:∀tk,K (.bool b) { s with toks:=tk }) :
  wpAny C.M A (call (.builtin "isinstance") [x,c]) K E s:=by
 cases t with
 |int=>cases hu with
  |int=>cases ht;cases e;exact int_int (h s.toks)
  |bool=>cases ht;cases e;exact bool_int (h s.toks)
  |str=>cases ht;cases e;exact str_int (h _)
  |none=>cases ht;cases e;exact NoneType_int (h _)
  |_=>exact zar e
 |bool=>cases hu with
  |int=>cases ht;cases e;exact int_bool (h _)
  |bool=>cases ht;cases e;exact bool_bool (h s.toks)
  |_=>exact zar e
 |tuple=>cases hu with
  |tup ha _=>cases ht;cases e;exact tuple_tuple ha rfl (h s.toks)
  |_=>exact zar e
 |list=>cases hu with
  |ref=>
   refine ob1 (Option.map_eq_some_iff.mp e) ?_;intro us hs e;refine ob22 (r.list (zgB hs)) ?_;intro xs n ha J;cases ht;subst e;exact list_list ha rfl (h s.toks)
  |none=>cases ht;cases e;exact NoneType_list (h _)
  |_=>exact zar e
 |str=>cases hu with
  |str=>cases ht;cases e;exact str_str (h s.toks)
  |_=>exact zar e
 |cls _=>cases ht
end
section
variable {C:Cx} {A:Around} {E:Value->Shared->Prop} {aa:Store} {s:Shared} {Q:V->Store->Prop}
theorem zfO (slice:Expr) (o i:Value):∃ops,subscripted slice false o i=operate ops (getItem o i):=by
 cases slice with
 |Slice _ _ c _=>cases c<;>exact ⟨_,rfl⟩
 |_=>exact ⟨_,rfl⟩
variable {n:Nat}
set_option tactic.hygienic true in
theorem zlH {i:Int} {k:Nat} (h:ziT i n=some k):k<n/\seqIndex? i n=some k/\-(n:Int)<=i/\i<n/\(0<=i->k=i.toNat)/\(i<0->k=(i+n).toNat):=by
 unfold ziT at h;unfold seqIndex?
 split at h
 ·rename_i h0
  split at h
  ·rename_i h1;cases h;have:¬i<0:=by lia
   refine ⟨h1,?_,by lia,by lia,fun J=>rfl,fun z=>by lia⟩
   simp only [this,if_false];rw [if_pos (by simp only [qae,qaq];lia)]
  ·cases h
 ·rename_i h0
  split at h
  ·rename_i h1;cases h;have:i<0:=by lia
   refine ⟨by lia,?_,by lia,by lia,fun J=>by lia,fun J=>rfl⟩
   simp only [this,if_true];rw [if_pos (by simp only [qae,qaq];lia)]
  ·cases h
theorem zeH {v:V} {K:List V->Prop} (h:zg4 aa v K):∃vs,K vs/\((v=.tup vs/\vs.length<=zao)\/∃a,v=.ref a/\(aa a=some (.list vs)\/aa a=some (.fixed vs))):=by
 cases v with
 |tup vs=>exact ⟨_,h.2,.inl ⟨rfl,h.1⟩⟩
 |ref a=>
  change (match aa a with |some (.list vs)=>K vs |some (.fixed vs)=>K vs |_=>False) at h
  cases e:aa a with
  |none=>rw [e] at h;exact h.elim
  |some o=>
   rw [e] at h;cases o with
   |list vs=>exact ⟨_,h,.inr ⟨_,rfl,.inl e⟩⟩
   |fixed vs=>exact ⟨_,h,.inr ⟨_,rfl,.inr e⟩⟩
   |_=>exact h.elim
 |_=>exact h.elim
variable {a:Addr} {vs:List V}
theorem Rel.seq (r:Rel C aa s.heap) (h:aa a=some (.list vs)\/aa a=some (.fixed vs)):∃xs,s.heap.IsList a xs.toArray/\VRs s.heap vs xs/\vs.length<=zao:=by
 rcases h with h |h
 ·refine ob2 (r.list h) ?_;intro xs n h1 h2 h3;exact ⟨xs,h1.isList,h2,h3⟩
 ·exact r.tr a _ h
theorem zkd (h:n<=zao):(n:Int)<2^63:=by simp only [zao] at h;lia
variable {u:V} {x y:Value}
theorem znI {v:V} {value slice:Expr} {K:V->Prop} {Q:Value->Shared->Prop} (r:Rel C aa s.heap) (hu:VR s.heap u x) (hv:VR s.heap v y) (h:idxV u v aa K) (hQ:∀z w,K z->VR s.heap z w->Q w s) :
  wpAny C.M A (subscriptTail value slice x y) Q E s:=by
 refine ob1 (zeH h) ?_;intro vs h1 hseq;clear h;refine lift fun g9 k9=>?_;refine ob1 (zaM h1) ?_;intro i ee33;subst ee33;intro h2;refine ob1 (zai h2) ?_;intro k hk h3;refine ob1 (zai h3) ?_;intro z hz h
 apply k9
 clear k9 g9;clear h1 h2 h3;refine lift fun g9 k9=>?_;refine ob14 hv.int_of ?_;intro t ee34;subst ee34;refine ob14 (zfO slice x (.int i t)) ?_;intro ops hops;refine ob23 (zlH hk) ?_;intro hlt hsi hlo hhi hp hn
 apply k9
 clear k9 g9
 rcases hseq with ⟨rfl,hl⟩ |⟨a,rfl,ha⟩
 ·refine ob10 hu.tup_of ?_;intro a xs n ee35;subst ee35;intro ha hX;have hll:=zkd hl;have e:=hX.length;refine ob1 (hX.get hz) ?_;intro w hw hzw;refine tail_any (T := "tuple") ⟨_,ha,rfl⟩ slot_tuple_getitem.lookup ?_ hops;exact P.getItem_tuple ha (by lia) (by lia) (by simp only [List.size_toArray];rw [←e];exact hsi) (by simpa using hw) (hQ z w h hzw)
 ·refine lift fun g9 k9=>?_;cases hu.ref_of;refine ob6 (r.seq ha) ?_;intro xs hL hX hl
  apply k9
  clear k9 g9;have hll:=zkd hl;have e:=hX.length;refine ob1 (hX.get hz) ?_;intro w hw hzw;refine tail_any (T := "list") hL.typeIs slot_list_getitem.lookup ?_ hops
  by_cases h0:0<=i
  ·exact wpAny_getItem_list hL h0 (by lia) (by rw [←hp h0];simpa using hw) (hQ z w h hzw)
  ·refine wpAny_getItem_list_neg hL (by lia) (by simp only [List.size_toArray];lia) (by lia) ?_ (hQ z w h hzw)
   have:=hn (by lia)
   simp only [List.size_toArray];rw [←e,←this];simpa using hw
theorem zo0 {K:V->Store->Prop} {Q:Value->Shared->Prop} (r:Rel C aa s.heap) (hu:VR s.heap u x) (h:zg4 aa u fun vs=>K (.int vs.length) aa) (hQ:∀z t w,K z aa->VR s.heap z w->Q w { s with toks:=t }) :
  wpAny C.M A (call (.builtin "len") [x]) Q E s:=by
 refine ob1 (zeH h) ?_;intro vs h' hseq;clear h;have h:=h';clear h'
 rcases hseq with ⟨rfl,hl⟩ |⟨a,rfl,ha⟩
 ·refine ob10 hu.tup_of ?_;intro a xs n ee36;subst ee36;intro ha hX;have hll:=zkd hl;have e:=hX.length;refine P.len_tuple ha (by simp only [List.size_toArray];lia) (hQ _ _ _ h ?_)
  rw [List.size_toArray,←e];exact .int
 ·refine lift fun g9 k9=>?_;cases hu.ref_of;refine ob6 (r.seq ha) ?_;intro xs hL hX hl
  apply k9
  clear k9 g9;have hll:=zkd hl;have e:=hX.length;refine len_list hL (by simp only [List.size_toArray];lia) (hQ _ _ _ h ?_)
  rw [List.size_toArray,←e];exact .int
theorem PostV.len (r:Rel C aa s.heap) (hu:VR s.heap u x) (h:zg4 aa u fun vs=>Q (.int vs.length) aa):wpAny C.M A (call (.builtin "len") [x]) (PostV C aa s Q) E s:=
 zo0 (K:=Q) r hu h fun z t w q hv=>.tok r q hv
variable {h:Heap} {v:List V}
theorem VRs.take {x:List Value} (n:Nat) (r:VRs h v x):VRs h (v.take n) (x.take n):=
 r.ind (P:=fun v x=>∀n,VRs h (v.take n) (x.take n)) (fun n=>by rw [List.take_nil,List.take_nil];exact .nil) (fun a J ih n=>by
  cases n with
  |zero=>exact .nil
  |succ n=>exact .cons a (ih n)) n
theorem VRs.drop {x:List Value} (n:Nat) (r:VRs h v x):VRs h (v.drop n) (x.drop n):=
 r.ind (P:=fun v x=>∀n,VRs h (v.drop n) (x.drop n)) (fun n=>by rw [List.drop_nil,List.drop_nil];exact .nil) (fun a r ih n=>by
  cases n with
  |zero=>exact .cons a r
  |succ n=>exact ih n) n
theorem VRs.reverse {x:List Value} (r:VRs h v x):VRs h v.reverse x.reverse:=
 r.ind (P:=fun v x=>VRs h v.reverse x.reverse) .nil fun a J ih=>by rw [List.reverse_cons,List.reverse_cons];exact ih.append (.cons a .nil)
theorem VRs.set {a:V} {b:Value} (hab:VR h a b) {v:List V} {x:List Value} (n:Nat) (r:VRs h v x):VRs h (v.set n a) (x.set n b):=
 r.ind (P:=fun v x=>∀n,VRs h (v.set n a) (x.set n b)) (fun n=>.nil) (fun c r ih n=>by
  cases n with
  |zero=>exact .cons hab r
  |succ n=>exact .cons c (ih n)) n
theorem zlv {l h:V} {xl xh:Value} {value:Expr} {lower upper:Option Expr} {p:Pos} (r:Rel C aa s.heap) (hu:VR s.heap u x) (hl:VR s.heap l xl) (hh:VR s.heap h xh) (q:zhS u l h aa Q) :
  wpAny C.M A (subscriptTail value (.Slice lower upper none p) x (.ref s.heap.objs.size)) (PostV C aa s Q) E { s with heap:=s.heap.push { cls:=.type "slice",data:=.fields #[xl,xh,.none] } }:=by
 refine lift fun g9 k9=>?_;refine ob2 (zat q) ?_;intro a vs ee37;subst ee37;intro ha q;refine ob18 q ?_;clear q;intro ee38;subst ee38;intro ee39;subst ee39;intro qq;cases hu.ref_of;refine ob14 hl.int_of ?_;intro tl ee40;subst ee40;cases hh.none_of;refine ob2 (r.list ha) ?_;intro xs n hL hX hz
 apply k9
 clear k9 g9;have e:=hX.length;refine ob14 (zfO (.Slice lower upper none p) (.ref a) (.ref s.heap.objs.size)) ?_;intro ops hops;have hL':(s.heap.push { cls:=.type "slice",data:=.fields #[.int 1 tl,.none,.none] }).IsList a xs.toArray:=hL.isList.push _;refine tail_any (T := "list") hL'.typeIs slot_list_getitem.lookup ?_ hops;refine wpAny_getItem_list_slice hL' (Heap.IsSliceOf.new ..) (.int 1 tl) .none .none (by simp) ?_ (by simp only [List.size_toArray];exact zch (by lia))
 dsimp only;rw [kms_pick_eq];have ep:kms_pick xs (some 1) none=xs.drop 1:=by
  cases xs with
  |nil=>rfl
  |cons y ys=>
   show (List.drop (min 1 (ys.length+1)) (y::ys)).take (ys.length+1-min 1 (ys.length+1))=ys;rw [Nat.min_eq_left (Nat.succ_le_succ (Nat.zero_le _))];exact List.take_length
 rw [ep];exact zbH (s:=s) (xs:=xs.drop 1) (n:=0) (t:=s.toks) r qq (fun b ob k=>zad _ _ (zad _ _ k)) (qak zaA zaA) zaA (qax _ rfl) (hX.drop _) (qak (by rw [List.length_drop];exact Nat.sub_le _ _) hz)
theorem zkc (r:Rel C aa s.heap) (hu:VR s.heap u x) (q:zaL aa u fun J vs=>vs.length<=zao/\Mine.Internal.alloc aa (.list vs) Q):wpAny C.M A (call (.type "list") [x]) (PostV C aa s Q) E s:=by
 refine lift fun g9 k9=>?_;refine ob17 (zat q) ?_;intro a vs ee41;subst ee41;intro ha hz q;cases hu.ref_of;refine ob2 (r.list ha) ?_;intro xs n hL hX J
 apply k9
 clear k9 g9;have e:=hX.length;refine zav (call_list_seq a (.inl rfl) hL rfl rfl (fun h' c' k hn hsz=>?_) (by simp only [List.size_toArray];exact zch (by lia)))
 exact zbH (t:=s.toks) r q k hsz (qal _) hn hX hz
theorem zja {b:Bool} (r:Rel C aa s.heap) (q:Q (.int (if b then 1 else 0)) aa):wpAny C.M A (call (.type "int") [.bool b]) (PostV C aa s Q) E s:=
 call_int_bool (.tok r q .int)
theorem zc1 {ws:List V} {xs:List Value} {f:Array Value->Array Value} {v:V} (r:Rel C aa s.heap) (ha:aa a=some (.list vs)) (hL:IsL s.heap a xs.toArray n)
  (hW:VRs s.heap ws (f xs.toArray).toList) (hz:ws.length<=zao) (q:Q v (aa.upd a (.list ws))) (hv:VR s.heap v x):PostV C aa s Q x { s with heap:=s.heap.update a (Obj.mapSeq f) }:=by
 have st:Step C No aa s (aa.upd a (.list ws)) { s with heap:=s.heap.update a (Obj.mapSeq f),toks:=s.toks }:=by
  refine .turn r ha (fun J e=>by cases e) ⟨Heap.size_update ..,fun b hb=>Heap.get?_update_other _ _ (Ne.symm hb)⟩ fun k=>⟨(f xs.toArray).toList,if (f xs.toArray).size==xs.toArray.size then n else n+1,?_,hW.keep k,hz⟩
  have:=hL.update f;rw [show (f xs.toArray).toList.toArray=f xs.toArray from by simp]
  exact this
 exact ⟨v,_,q,st.vr hv,st⟩
set_option tactic.hygienic true in
theorem zpO {m:M0} {id:String} {pos:Pos} (r:Rel C aa s.heap) (hu:VR s.heap u x) (hid:id=match m with |.pop => "list.pop") (q:m0V m u aa Q) :
  wpAny C.M A (callWith pos (.builtin id) [x] [] []) (PostV C aa s Q) E s:=by
 refine lift fun g9 k9=>?_;refine ob2 (zat q) ?_;intro a vs ee42;subst ee42;intro ha q;cases hu.ref_of;refine ob2 (r.list ha) ?_;intro xs n hL hX hz
 apply k9
 clear k9 g9;have e:=hX.length;have hsz:xs.toArray.size<=sizeLine:=by simp only [List.size_toArray];exact zch (by lia)
 cases m with
 |pop=>
  subst hid;dsimp only at q ⊢
  split at q
  ·exact q.elim
  ·rename_i y t ht;have hvs:vs=t.reverse++[y]:=by rw [←List.reverse_reverse vs,ht,List.reverse_cons]
   have hlen:vs.length=t.reverse.length+1:=by rw [hvs];simp
   obtain ⟨y',hy',hyy⟩:=hX.get (i:=t.reverse.length) (a:=y) (by rw [hvs];simp)
   have hidx:xs.toArray.size-1=t.reverse.length:=by simp only [List.size_toArray];lia
   refine P.pop_list hL (y:=y') (by rw [hidx];simpa using hy') (zc1 r ha hL ?_ (by lia) q hyy) hsz
   have:(xs.toArray.eraseIdxIfInBounds (xs.toArray.size-1)).toList=xs.take t.reverse.length:=by
    rw [hidx];have hlt:t.reverse.length<xs.length:=by lia
    simp only [List.eraseIdxIfInBounds_toArray];rw [List.eraseIdx_eq_take_drop_succ,List.drop_of_length_le (by lia),List.append_nil]
   rw [this];have:=hX.take t.reverse.length;rw [hvs,List.take_append_of_le_length (qal _),List.take_length] at this;exact this
open PySem.MeetsSeq PySem.SeqAt AutoSeq1 in
theorem zoP {l:Addr} {its:Array Value} (hs:its.size<=sizeLine):∀(k i:Nat),its[i+k]?=some y ->
  Meets (Builtin.«list.remove.loop» ⟨[.ref l,x,rawInt i],[]⟩) fun A R s=>IsL s.heap l its n/\EqAt A.in1 s y x true/\(∀m z,m<k->its[i+m]?=some z->EqAt A.in1 s z x false)/\R (.ok (.ret .none)) { s with heap:=s.heap.update l (Obj.mapSeq (·.eraseIdxIfInBounds (i+k))) }:=by
 intro k
 induction k with
 |zero=>
  intro i hi prog w A R s h;refine qaa (listItems_at h.1 rfl ?_);show wpAny _ _ (match its[i]? with |none=>_ |some x=>_) _ _ _
  rw [show its[i]?=some y from hi];exact qaa (h.2.1 prog w _ _ (qaa (listUpdate_at h.1 rfl (qab h.2.2.2) hs (qak (size_erased its _) (Nat.le_succ_of_le hs)))))
 |succ k ih=>
  intro i hi prog w A R s h;have hlt:i<its.size:=by have:=(Array.getElem?_eq_some_iff.mp hi).1;lia
  have e:∀m,i+1+m=i+(m+1):=fun m=>by lia
  refine qaa (listItems_at h.1 rfl ?_);show wpAny _ _ (match its[i]? with |none=>_ |some x=>_) _ _ _
  rw [Array.getElem?_eq_getElem hlt];refine qaa (h.2.2.1 0 _ (Nat.zero_lt_succ k) (Array.getElem?_eq_getElem hlt) prog w _ _ ?_);exact qab ⟨plainId_quiet plain_remove_loop _,codeAny_builtin entry_remove_loop (by
   rw [Around.under_plainId plain_remove_loop _];exact ih (i+1) (by rw [e];exact hi) prog w A R _ ⟨h.1,h.2.1,fun m z hm hz=>h.2.2.1 (m+1) z (Nat.succ_lt_succ hm) (by rw [←e];exact hz),by rw [e];exact h.2.2.2⟩)⟩
open PySem.MeetsSeq PySem.SeqAt AutoSeq1 in
theorem znn {l:Addr} {its:Array Value} {k:Nat} (hs:its.size<=sizeLine) (hk:its[k]?=some y) :
  Meets (Builtin.«list.remove» ⟨[.ref l,x],[]⟩) fun A R s=>IsL s.heap l its n/\EqAt A.in1 s y x true/\(∀m z,m<k->its[m]?=some z->EqAt A.in1 s z x false)/\R (.ok (.ret .none)) { s with heap:=s.heap.update l (Obj.mapSeq (·.eraseIdxIfInBounds k)) }:=by
 intro prog w A R s h;exact qab ⟨plainId_quiet plain_remove_loop _,codeAny_builtin entry_remove_loop (by
  rw [Around.under_plainId plain_remove_loop _];exact zoP hs k 0 (by rw [Nat.zero_add];exact hk) prog w A R _ ⟨h.1,h.2.1,fun m z hm hz=>h.2.2.1 m z hm (by rw [←Nat.zero_add m];exact hz),by rw [Nat.zero_add];exact h.2.2.2⟩)⟩
noncomputable def m1Id:M1->String
 |.append => "list.append" |.remove => "list.remove" |.other e=>e.elim
theorem zpN {m:M1} {u v:V} {y:Value} {id:String} {pos:Pos} {sx:Sem Value} {Q':Value->Shared->Prop} (hA:A.units+9<cLine) (hid:id=m1Id m)
  (h:wpAny C.M A sx (fun y ag=>∃ae v Q,Rel C ae ag.heap/\VR ag.heap u x/\VR ag.heap v y/\m1V m u v ae Q/\∀z ai,PostV C ae ag Q z ai->Q' z ai) E s) (hx:∃a,x=.ref a) :
  wpAny C.M A (callWith pos (.builtin id) [x] [(false,sx)] []) Q' E s:=by
 refine ob14 hx ?_;clear hx;intro a ee43;subst ee43;cases m with
 |append=>
  subst hid;refine P.append_list (wpAny_mono h (fun y ag ao=>?_) fun J J e=>e);refine lift fun g9 k9=>?_;refine ob5 ao ?_;clear ao;intro ae v Q r hu hv q k;refine ob17 (zat q) ?_;intro a' vs ee44;subst ee44;intro ha hz q;cases hu.ref_of;refine ob2 (r.list ha) ?_;intro xs n hL hX J
  apply k9
  clear k9 g9;have e:=hX.length;refine ⟨_,n,by simp only [List.size_toArray];exact zch (by lia),hL,k _ _ (zc1 r ha hL ?_ (by simp only [qat,List.length_cons,List.length_nil];lia) q .none)⟩
  simpa using hX.append (.cons hv .nil)
 |other e=>exact e.elim
 |remove=>
  subst hid;refine seqMethod1_meets F.slot_list_remove F.entry_list_remove (wpAny_mono h (fun y ag ao=>?_) fun J J e=>e);refine lift fun g9 k9=>?_;refine ob5 ao ?_;clear ao;intro ae v Q r hu hv q k;obtain ⟨a',vs,rfl,ha,P,R,p,⟨rfl,rfl,hp⟩,q'⟩:=zat q;cases hu.ref_of;refine ob2 (r.list ha) ?_;intro xs n hL hX hz
  apply k9
  clear k9 g9;obtain ⟨z,hz0,hv'⟩:=hX.get (i:=P.length) (a:=.tup [.int p.1,.int p.2]) (by rw [List.map_append,List.getElem?_append_right (by rw [qac];exact qal _),qac,Nat.sub_self];rfl)
  have e:=hX.length;have eq:∀{p':Int×Int} {w:Value},VR ag.heap (.tup [.int p'.1,.int p'.2]) w->∀{b:Bool},decide (p'=p)=b->PySem.SeqAt.EqAt A.in1 ag w y b:=fun {p' w} hw {b} hb=>
   (zid (A:=A.in1) fuel r (show A.units+7<cLine from Nat.lt_of_succ_lt (Nat.lt_of_succ_lt hA)) hw hv (by rw [←hb];exact zmR)).1
  refine ⟨⟨_,hL,rfl⟩,F.args_list_remove_2 _ _,_,znn (k:=P.length) (by rw [List.size_toArray,←e];exact zch hz) (by rw [List.getElem?_toArray];exact hz0),hL,eq hv' (qaf rfl),fun m w hm hw=>?_,k _ _ (zc1 r ha hL ?_ ?_ q' .none)⟩
  ·rw [List.getElem?_toArray] at hw;obtain ⟨w',hw',hvw⟩:=hX.get (i:=m) (a:=.tup [.int P[m].1,.int P[m].2]) (by rw [List.map_append,List.getElem?_append_left (by rw [qac];exact hm),qau,qas hm];rfl)
   rw [hw] at hw';cases hw';exact eq hvw (qai fun z=>hp (z▸List.getElem_mem _))
  ·rw [List.eraseIdxIfInBounds_toArray,List.eraseIdx_eq_take_drop_succ];have a:=hX.take P.length;have b:=hX.drop (P.length+1);rw [←List.map_take,List.take_append_of_le_length (qal _),List.take_length] at a;rw [←List.map_drop,List.drop_append,List.drop_of_length_le (Nat.le_succ _),Nat.add_sub_cancel_left,List.nil_append] at b;rw [List.map_append];exact a.append b
  ·rw [qac,qat] at hz ⊢;exact qak (Nat.add_le_add_left (Nat.le_succ _) _) hz
variable {K:Store->Prop}
theorem ziO {j:Int} {t:Tok} {x:V} {z:Value} (r:Rel C aa s.heap) (ha:aa a=some (.list vs)) (h0:0<=j) (h1:j<vs.length) (hx:VR s.heap x z) (q:K (aa.upd a (.list (vs.set j.toNat x)))) :
  wpAny C.M A (setItem (.ref a) (.int j t) z) (fun J s'=>∃ac,K ac/\Step C No aa s ac s') E s:=by
 refine ob2 (r.list ha) ?_;intro xs n hL hX hz;have e:=hX.length;have hll:=zkd hz;have hl:=hL.isList;have fin:∃ac,K ac/\Step C No aa s ac { s with heap:=s.heap.update a (Obj.mapSeq (·.setIfInBounds j.toNat z)) }:=by
  refine ob2 (zc1 (Q:=fun J ac=>K ac) (f:=(·.setIfInBounds j.toNat z)) (ws:=vs.set j.toNat x) (v:=.none) r ha hL (by simpa using hX.set hx j.toNat) (by simpa using hz) q .none) ?_
  intro J ac q' J st;exact ⟨ac,q',st⟩
 unfold setItem
 try with_reducible refine wpAny_holding ?_
 first |refine qaa (qab ?_) |skip
 refine qaa (wpAny_sequenceKey hl.typeIs (by decide) ?_)
 refine qaa (wpAny_callSpecial?_slot (name:=Str.ofString "__setitem__") hl.typeIs slot_list_setitem
  (wpAny_call_entry slot_list_setitem hl.typeIs entry_list_setitem ?_ (args_list_setitem _ _ _)))
 show wpAny _ _ (Builtin.List.listSubscript? (.int j t) >>= _) _ _ s;refine qaa (wpAny_listSubscript_int (fitsIndex_of h0 (by lia)) ?_)
 refine ob14 (Int.eq_ofNat_of_zero_le h0) ?_;intro i ee45;subst ee45;have hi:i<xs.toArray.size:=by simp only [List.size_toArray];lia
 show wpAny _ _ ((seqItemAt a i >>= fun r=>pure (r.map (i,·))) >>= _) _ _ s;refine qaa (qaa (wpAny_seqItemAt hL rfl (qab ?_)));rw [Array.getElem?_eq_getElem hi];show wpAny _ _ (setSeqItemAt a i z >>= _) _ _ s;refine qaa (wpAny_setSeqItemAt hL rfl ?_)
 first
  |exact qaa (qab (qab ⟨.none,rfl,qab fin⟩))
  |exact qab ⟨.none,rfl,qab fin⟩
theorem zd2 (i:Int) (ns:List Int):∃ns':List Int,zaY (.int i) (ns.map V.int)=ns'.map V.int/\stored (ns.map fun n=>(n,Value.bool true)) i (.bool true)=ns'.map fun n=>(n,Value.bool true):=by
 by_cases h:i∈ns
 ·refine ⟨ns,?_,?_⟩
  ·unfold zaY;rw [zcS,if_pos (by simpa using h)]
  ·unfold stored;rw [if_pos (by simpa using h),List.map_map]
   refine List.map_congr_left fun n J=>?_
   by_cases e:n=i
   ·subst e;simp
   ·simp [e]
 ·refine ⟨ns++[i],?_,?_⟩
  ·unfold zaY;rw [zcS,if_neg (by simpa using h)];simp
  ·unfold stored;rw [if_neg (by simpa using h)];simp
theorem zfX (i j:Int) (b:Addr) (ps:List ((Int×Int)×Addr)):∃ps':List ((Int×Int)×Addr),zaY (.tup [.int i,.int j]) (ps.map fun p=>V.tup [.int p.1.1,.int p.1.2])=ps'.map (fun p=>V.tup [.int p.1.1,.int p.1.2]) /\
  storedH (ps.map fun p=>([p.1.1,p.1.2],p.2,Value.bool true)) [i,j] b (.bool true)=ps'.map fun p=>([p.1.1,p.1.2],p.2,Value.bool true):=by
 have hh:=zeq i j ps
 by_cases h:(i,j)∈ps.map (·.1)
 ·have hc:(ps.map (·.1)).contains (i,j)=true:=by simpa using h
  refine ⟨ps,?_,?_⟩
  ·unfold zaY;rw [zcq,if_pos hc]
  ·unfold storedH;rw [hh,if_pos hc,List.map_map];refine List.map_congr_left fun n J=>?_;simp only [Function.comp,putAt]
   split<;>rfl
 ·have hc:¬(ps.map (·.1)).contains (i,j)=true:=by simpa using h
  refine ⟨ps++[((i,j),b)],?_,?_⟩
  ·unfold zaY;rw [zcq,if_neg hc];simp
  ·unfold storedH;rw [hh,if_neg hc];simp
theorem zc4 (k:V) (ks:List V):(zaY k ks).length<=ks.length+1:=by
 unfold zaY;split<;>simp
theorem ziQ {ks:List V} {i:V} (hA:A.units+8<cLine) (r:Rel C aa s.heap) (ha:aa a=some (.dict ks)) (hi:VR s.heap i y) (hk:zbJ (i::ks)=true) (hz:ks.length<zao)
  (q:K (aa.upd a (.dict (zaY i ks)))):wpAny C.M A (setItem (.ref a) y (.bool true)) (fun J s'=>∃ac,K ac/\Step C No aa s ac s') E s:=by
 refine ob16 (r.tr a _ ha) ?_;intro hK J;have hz':=zc4 i ks;unfold zbJ at hk
 rcases Bool.or_eq_true_iff.mp hk with e |e
 ·simp only [List.all_cons,qae] at e;refine lift fun g9 k9=>?_;refine ob14 (zcR e.1) ?_;intro i ee46;subst ee46;refine ob14 hi.int_of ?_;intro t ee47;subst ee47;refine ob1 (hK.ints e.2) ?_;intro ns ee48;subst ee48;intro hd;refine ob1 (zd2 i ns) ?_;intro ns' e1 e2
  apply k9
  clear k9 g9;refine wpAny_setItem_pairs (knd:=intKind C.prog C.w) (zaZ i t) hd (fun h' hd' hs=>⟨_,q,.turn r ha (fun J e=>by cases e) hs fun k=>⟨.inl ⟨ns',e1,e2▸hd'⟩,by lia⟩⟩) (by simp at hz ⊢;exact zch (by lia))
 ·simp only [List.all_cons,qae] at e;refine lift fun g9 k9=>?_;refine ob20 (zdz e.1) ?_;intro i j ee49;subst ee49;refine ob21 hi.pair_of ?_;intro b n t u ee50;subst ee50;intro hb;refine ob1 (hK.pairs e.2) ?_;intro ps ee51;subst ee51;intro hd;refine ob1 (zfX i j b ps) ?_;intro ps' e1 e2
  apply k9
  clear k9 g9;refine wpAny_setItem_heap (knd:=tupleKind (intKind C.prog C.w)) (tupleKind_room_in1 (by lia)) (zjY hb) hd (fun h' hd' hs=>⟨_,q,.turn r ha (fun J e=>by cases e) hs fun k=>⟨.inr ⟨ps',e1,e2▸hd'⟩,by lia⟩⟩) (by simp at hz ⊢;exact zch (by lia))
set_option tactic.hygienic true in
theorem ziP {i x:V} {xu xi xx:Value} (hA:A.units+8<cLine) (r:Rel C aa s.heap) (hu:VR s.heap u xu) (hi:VR s.heap i xi) (hx:VR s.heap x xx) (q:za4 u i x aa K) :
  wpAny C.M A (setItem xu xi xx) (fun J s'=>∃ac,K ac/\Step C No aa s ac s') E s:=by
 unfold za4 at q
 split at q
 ·cases hu.ref_of
  split at q
  ·rename_i vs ha;refine ob24 (zaM q) ?_;intro j ee52;subst ee52;intro h0 h1 q;refine ob14 hi.int_of ?_;intro t ee53;subst ee53;exact ziO r ha h0 h1 hx q
  ·rename_i ks ha;refine lift fun g9 k9=>?_;refine ob25 q ?_;clear q;intro h1 h2 ee54;subst ee54;intro q;cases hx.bool_of
   apply k9
   clear k9 g9;exact ziQ hA r ha hi h1 h2 q
  ·exact q.elim
 ·exact q.elim
theorem zek:∀{vs:List V} {bs:List Bool},bools? vs=some bs->vs=bs.map V.bool
 | [],bs,e=>by cases e;rfl
 |.bool b::r,bs,e=>by
  replace e:=Option.map_eq_some_iff.mp e
  refine ob1 e ?_;clear e;intro bs' e1 ee55;subst ee55;rw [zek e1];rfl
 |.none::_,_,e |.int _::_,_,e |.str _::_,_,e |.tup _::_,_,e |.ref _::_,_,e=>zar e
theorem zdJ:∀{vs:List V} {ns:List Int},ints? vs=some ns->vs=ns.map V.int
 | [],bs,e=>by cases e;rfl
 |.int b::r,bs,e=>by
  replace e:=Option.map_eq_some_iff.mp e
  refine ob1 e ?_;clear e;intro bs' e1 ee56;subst ee56;rw [zdJ e1];rfl
 |.none::_,_,e |.bool _::_,_,e |.str _::_,_,e |.tup _::_,_,e |.ref _::_,_,e=>zar e
theorem zfh {h:Heap}:∀{ns:List Int} {xs:List Value},VRs h (ns.map V.int) xs->IntsAre xs ns
 | [],_,r=>by cases r;exact .nil
 |n::ns,_,r=>by
  cases r with |cons a r=>
  refine ob14 a.int_of ?_;intro t ee57;subst ee57;exact .cons _ _ (zfh r)
variable {ns:List Int}
theorem zfg {xs:List Value} (r:IntsAre xs ns):VRs h (ns.map V.int) xs:=by
 induction r with
 |nil=>exact .nil
 |cons _ _ _ ih=>exact .cons .int ih
theorem zdo {h:Heap}:∀{bs:List Bool} {xs:List Value},VRs h (bs.map V.bool) xs->xs=bs.map Value.bool
 | [],_,r=>by cases r;rfl
 |b::bs,_,r=>by
  cases r with |cons a r=>
  rw [a.bool_of,zdo r];rfl
theorem bools_truth {bs:List Bool}:TruthOf C.prog C.w A (fun i v=>(bs.map Value.bool).toArray[i]?=some v) (fun i=>bs.getD i false):=by
 intro i v s Q E hP hQ;simp only [List.getElem?_toArray,qau,Option.map_eq_some_iff] at hP;refine ob1 hP ?_;clear hP;intro b hb ee58;subst ee58;refine wpAny_truthy_bool ?_
 simpa [List.getD,hb] using hQ
theorem zjS (bs:List Bool):(List.range bs.length).all (fun i=>bs.getD i false)=bs.all id:=by
 rw [Bool.eq_iff_iff];simp only [List.all_eq_true,List.mem_range,id]
 constructor
 ·intro h b hb;refine lift fun g9 k9=>?_;obtain ⟨i,hi,rfl⟩:=List.mem_iff_getElem.mp hb
  apply k9
  clear k9 g9
  simpa [hi] using h i hi
 ·intro h i hi
  simpa [hi] using h _ (List.getElem_mem hi)
theorem zpy (hh:A.handled=none) (r:Rel C aa s.heap) (hu:VR s.heap u x) (q:zaL aa u fun J vs=>zam (bools? vs) fun bs=>Q (.bool (bs.all id)) aa):wpAny C.M A (call (.builtin "all") [x]) (PostV C aa s Q) E s:=by
 refine lift fun g9 k9=>?_;refine ob2 (zat q) ?_;intro a vs ee59;subst ee59;intro ha q;refine ob1 (zai q) ?_;intro bs hb q;cases hu.ref_of;refine ob2 (r.list ha) ?_;intro xs n hL hX J
 apply k9
 clear k9 g9;rw [zek hb] at hX;cases zdo hX;refine zav (call_all_walk (wpAny_pyIter_list hL.isList ⟨_,_,_,_,_,_,fun i=>bs.getD i false,rfl,Walks.list (A:=A.in1) hh _ a (Nat.ne_of_lt (Heap.lt_size hL)) _,
  ⟨⟨_,qax _ rfl,rfl,rfl⟩,hL.isList.push _⟩,bools_truth,fun h' tk k hsz=>?_⟩))
 have k':∀b ob,s.heap.get? b=some ob->h'.get? b=some ob:=fun b ob e=>k b ob (by simp only [qah];exact Nat.ne_of_lt (Heap.lt_size e)) (zad _ _ e)
 refine ⟨_,aa,q,?_,.grow r k' hsz⟩;rw [show (bs.map Value.bool).toArray.size=bs.length by simp,zjS];exact .bool
theorem zjR (bs:List Bool):(List.range bs.length).any (fun i=>bs.getD i false)=bs.any id:=by
 rw [Bool.eq_iff_iff];simp only [List.any_eq_true,List.mem_range,id]
 constructor
 ·intro zz1;refine ob1 zz1 ?_;clear zz1;intro i hi h;exact ⟨bs[i],List.getElem_mem hi,by simpa [hi] using h⟩
 ·intro zz2;refine lift fun g9 k9=>?_;refine ob1 zz2 ?_;clear zz2;intro b hb h;obtain ⟨i,hi,rfl⟩:=List.mem_iff_getElem.mp hb
  apply k9
  clear k9 g9;exact ⟨i,hi,by simpa [hi] using h⟩
theorem zpv (hh:A.handled=none) (r:Rel C aa s.heap) (hu:VR s.heap u x) (q:zaL aa u fun J vs=>zam (bools? vs) fun bs=>Q (.bool (bs.any id)) aa):wpAny C.M A (call (.builtin "any") [x]) (PostV C aa s Q) E s:=by
 refine lift fun g9 k9=>?_;refine ob2 (zat q) ?_;intro a vs ee60;subst ee60;intro ha q;refine ob1 (zai q) ?_;intro bs hb q;cases hu.ref_of;refine ob2 (r.list ha) ?_;intro xs n hL hX J
 apply k9
 clear k9 g9;rw [zek hb] at hX;cases zdo hX;refine zav (call_any_walk (wpAny_pyIter_list hL.isList ⟨_,_,_,_,_,_,fun i=>bs.getD i false,rfl,Walks.list (A:=A.in1) hh _ a (Nat.ne_of_lt (Heap.lt_size hL)) _,
  ⟨⟨_,qax _ rfl,rfl,rfl⟩,hL.isList.push _⟩,bools_truth,fun h' tk k hsz=>?_⟩))
 have k':∀b ob,s.heap.get? b=some ob->h'.get? b=some ob:=fun b ob e=>k b ob (by simp only [qah];exact Nat.ne_of_lt (Heap.lt_size e)) (zad _ _ e)
 refine ⟨_,aa,q,?_,.grow r k' hsz⟩;rw [show (bs.map Value.bool).toArray.size=bs.length by simp,zjR];exact .bool
theorem ze4 {l l':List Int} (p:l.Perm l') (h:l.Pairwise (· <= ·)) (h':l'.Pairwise (· <= ·)):l=l':=p.eq_of_pairwise (fun a b J J h1 h2=>Int.le_antisymm h1 h2) h h'
theorem zdy {ns':List Int} (hp:ns'.Perm ns) (hs:ns'.Pairwise (· <= ·)):ns.mergeSort (fun a b=>decide (a<=b))=ns':=by
 refine ze4 ((List.mergeSort_perm ns _).trans hp.symm) ?_ hs;have:=List.pairwise_mergeSort (le:=fun a b:Int=>decide (a<=b)) (by intro a b c h1 h2;simp only [qaq] at *;lia) (by intro a b;simp only [Bool.or_eq_true,qaq];lia) ns
 exact this.imp (fun {a b} h=>by simpa using h)
theorem ziK (r:Rel C aa s.heap) (ha:aa a=some (.list vs)) (hn:ints? vs=some ns) (h64:vs.length<64) (q:Mine.Internal.alloc aa (.list ((ns.mergeSort (fun a b=>decide (a<=b))).map V.int)) Q) :
  wpAny C.M A (call (.builtin "sorted") [.ref a]) (PostV C aa s Q) E s:=by
 refine ob2 (r.list ha) ?_;intro xs n hL hX J;have e:=hX.length;rw [zdJ hn] at hX;have hI:=zfh hX;refine sorted_ints hL.isList hI (by lia) fun out ns' hI' hp hs=>?_
 rw [zdy hp hs] at q;refine ob14 (sortedAll_at s.heap xs out) ?_;intro c hc;refine zbH (s:=s) (h':=sortedAll s.heap xs out) (xs:=out.toList) (n:=c) (t:=s.toks) r q (fun b ob hb=>sortedAll_old hb) ?_ (Nat.le_succ _) (by simpa using hc) (zfg hI') ?_
 ·unfold sortedAll sortedHeap;simp only [Heap.size_update,Heap.size_push];lia
 ·have:=hp.length_eq;have e2:vs.length=ns.length:=by rw [zdJ hn];simp
  simp only [qac,zao];lia
end
end Mine.Internal
end
section
namespace Mine.Internal
open PySem PySem.W PyProof.Rows
def KGo {α:Type} (lt:Nat->Nat->Bool) (N:Nat):KasT α->α->Prop
 |.ret a,b=>a=b
 |.ask i j k,b=>(i<N/\j<N)/\KGo lt N (k (lt i j)) b
theorem KGo.bind {α β:Type} {lt:Nat->Nat->Bool} {N:Nat} {f:α->KasT β} {a:α} {b:β}:∀{t:KasT α},KGo lt N t a->KGo lt N (f a) b->KGo lt N (t.bind f) b
 |.ret _,h,g=>by cases h;exact g
 |.ask i j k,h,g=>⟨h.1,KGo.bind (t:=k (lt i j)) h.2 g⟩
theorem KGo.wp {α:Type} {lt:Nat->Nat->Bool} {N:Nat} {a:α} {s:Shared} {cmp:Nat->Nat->(Bool->Shared->Prop)->Shared->Prop} {Q:α->Shared->Prop}
  (hc:∀i j C,i<N->j<N->C (lt i j) s->cmp i j C s) (q:Q a s):∀{t:KasT α},KGo lt N t a->t.kasWp cmp Q s
 |.ret _,h=>by cases h;exact q
 |.ask i j k,h=>hc i j _ h.1.1 h.1.2 (KGo.wp hc q (t:=k (lt i j)) h.2)
section
variable {lt:Nat->Nat->Bool} {N:Nat}
structure LtOk (lt:Nat->Nat->Bool) (N:Nat):Prop where
 irr:∀i,lt i i=false
 tr:∀i j k,lt i j=true->lt j k=true->lt i k=true
 tot:∀i j,i<N->j<N->i≠j->lt i j=false->lt j i=true
structure PermN (N:Nat) (p:Array Nat):Prop where
 size:p.size=N
 lt:∀i,i<N->p.getD i 0<N
 inj:∀i j,i<j->j<N->p.getD i 0≠p.getD j 0
variable {p:Array Nat}
theorem PermN.of (h:p.toList.Perm (List.range N)):PermN N p:=by
 have hl:p.size=N:=by have:=h.length_eq;simpa using this
 have hn:p.toList.Nodup:=h.symm.nodup List.nodup_range;have hg:∀i (hi:i<N),p.getD i 0=p.toList[i]'(by simpa [hl] using hi):=by
  intro i hi;simp [Array.getD,hl,hi]
 refine ⟨hl,fun i hi=>?_,fun i j hij hj e=>?_⟩
 ·rw [hg i hi];exact List.mem_range.mp (h.subset (List.getElem_mem _))
 ·rw [hg i (by lia),hg j hj] at e
  exact List.pairwise_iff_getElem.mp hn i j (by simp [hl];lia) (by simp [hl];lia) hij e
def UpTo (lt:Nat->Nat->Bool) (p:Array Nat) (k:Nat):Prop:=∀i j,i<j->j<k->lt (p.getD i 0) (p.getD j 0)=true
theorem zgP (O:LtOk lt N) {k:Nat} (h:∀i,i+1<k->lt (p.getD i 0) (p.getD (i+1) 0)=true):UpTo lt p k:=by
 intro i j hij
 induction j with
 |zero=>exact absurd hij (Nat.not_lt_zero _)
 |succ j ih=>
  intro hj;have h1:=h j hj
  rcases Nat.eq_or_lt_of_le (Nat.le_of_lt_succ hij) with e |e
  ·subst e;exact h1
  ·exact O.tr _ _ _ (ih e (Nat.lt_of_succ_lt hj)) h1
theorem zkX (O:LtOk lt N) {p:Array Nat} (P:PermN N p):∀(f n:Nat),n+1+f<=N ->
  ∃m,KGo lt N (kas_asc p f (n+1)) (m+1)/\(n<=m/\m<=n+f)/\(∀i,n<=i->i<m->lt (p.getD i 0) (p.getD (i+1) 0)=true)/\(m<n+f->lt (p.getD (m+1) 0) (p.getD m 0)=true)
 | 0,n,_=>⟨n,rfl,⟨qal _,qal _⟩,fun i a b=>absurd b (Nat.not_lt.mpr a),fun a=>absurd a (Nat.lt_irrefl _)⟩
 |f+1,n,h2=>by
  have l1:n+1<N:=by lia
  have r1:=P.lt (n+1) l1;have r2:=P.lt n (Nat.lt_of_succ_lt l1);cases hc:lt (p.getD (n+1) 0) (p.getD n 0) with
  |true=>exact ⟨n,⟨⟨r1,r2⟩,by show KGo lt N (if lt (p.getD (n+1) 0) (p.getD n 0)=true then _ else _) _;rw [hc];rfl⟩,⟨qal _,Nat.le_add_right _ _⟩,fun i a b=>absurd b (Nat.not_lt.mpr a),fun J=>hc⟩
  |false=>
   refine ob8 (zkX O P f (n+1) (by lia)) ?_
   intro m a b c d;refine ⟨m,⟨⟨r1,r2⟩,by show KGo lt N (if lt (p.getD (n+1) 0) (p.getD n 0)=true then _ else _) _;rw [hc];exact a⟩,⟨Nat.le_of_succ_le b.1,by lia⟩,fun i hi hm=>?_,fun hm=>d (by lia)⟩
   rcases Nat.eq_or_lt_of_le hi with e |e
   ·subst e;exact O.tot _ _ r1 r2 (P.inj _ _ (Nat.lt_succ_self _) l1).symm hc
   ·exact c i e hm
theorem zkJ (O:LtOk lt N) {p:Array Nat} (P:PermN N p):∀(f n:Nat),n+1+f<=N ->
  ∃m,KGo lt N (kas_desc f p (n+1) 0) (p,m+1,0)/\(n<=m/\m<=n+f)/\(∀i,n<=i->i<m->lt (p.getD (i+1) 0) (p.getD i 0)=true)
 | 0,n,_=>⟨n,rfl,⟨qal _,qal _⟩,fun i a b=>absurd b (Nat.not_lt.mpr a)⟩
 |f+1,n,h2=>by
  have l1:n+1<N:=by lia
  have r1:=P.lt (n+1) l1;have r2:=P.lt n (Nat.lt_of_succ_lt l1);cases hc:lt (p.getD (n+1) 0) (p.getD n 0) with
  |false=>
   have hd:=O.tot _ _ r1 r2 (P.inj _ _ (Nat.lt_succ_self _) l1).symm hc;refine ⟨n,⟨⟨r1,r2⟩,?_⟩,⟨qal _,Nat.le_add_right _ _⟩,fun i a b=>absurd b (Nat.not_lt.mpr a)⟩;show KGo lt N (if lt (p.getD (n+1) 0) (p.getD n 0)=true then _ else _) _
   rw [hc];refine ⟨⟨r2,r1⟩,?_⟩;show KGo lt N (if lt (p.getD n 0) (p.getD (n+1) 0)=true then _ else _) _
   rw [hd];rfl
  |true=>
   refine ob6 (zkJ O P f (n+1) (by lia)) ?_
   intro m a b c;refine ⟨m,⟨⟨r1,r2⟩,by show KGo lt N (if lt (p.getD (n+1) 0) (p.getD n 0)=true then _ else _) _;rw [hc];exact a⟩,⟨Nat.le_of_succ_le b.1,by lia⟩,fun i hi hm=>?_⟩
   rcases Nat.eq_or_lt_of_le hi with e |e
   ·subst e;exact hc
   ·exact c i e hm
theorem zed {q:Array Nat} {i j:Nat} (h:p[i]?=q[j]?):p.getD i 0=q.getD j 0:=by
 rw [Array.getD_eq_getD_getElem?,Array.getD_eq_getD_getElem?,h]
theorem zmo {M:Nat} (O:LtOk lt (M+2)) {p:Array Nat} (hp:p.toList.Perm (List.range (M+2))) :
  ∃m q,KGo lt (M+2) (kas_count (M+2) p) (m+1,q)/\q.toList.Perm (List.range (M+2))/\m<=M+1/\UpTo lt q (m+1):=by
 have P:=PermN.of hp;refine ob8 (zkX O P (M+1) 0 (by lia)) ?_
 intro n a b c d;rw [Nat.zero_add] at b d;have up:UpTo lt p (n+1):=zgP O fun i h=>c i (Nat.zero_le _) (Nat.lt_of_succ_lt_succ h)
 by_cases e:n=M+1
 ·refine ⟨n,p,KGo.bind a ?_,hp,b.2,up⟩;rw [e];rw [if_pos (beq_self_eq_true _)];rfl
 have nl:n<M+1:=Nat.lt_of_le_of_ne b.2 e;have e':¬((n+1==M+2)=true):=fun z=>e (Nat.succ.inj (beq_iff_eq.mp z));have d:=d nl
 by_cases e1:0<n
 ·refine ⟨n,p,KGo.bind a ?_,hp,b.2,up⟩;rw [if_neg e',if_pos (Nat.succ_lt_succ e1)];refine ⟨⟨P.lt _ (Nat.zero_lt_succ _),P.lt _ (Nat.lt_succ_of_lt nl)⟩,?_⟩;show KGo lt (M+2) (if lt (p.getD 0 0) (p.getD n 0)=true then _ else _) _
  rw [up 0 n e1 (Nat.lt_succ_self n)];rfl
 obtain rfl:n=0:=Nat.eq_zero_of_not_pos e1;refine ob6 (zkJ O P M 1 (by lia)) ?_
 intro m a' b' c';have bl:m<=M+1:=by lia
 have hq:(kas_rev p 0 (m+1)).toList.Perm (List.range (M+2)):=(Array.perm_iff_toList_perm.mp (mirror_perm p 0 (m+1) _)).trans hp;have Pq:=PermN.of hq;have hm:∀k,(kas_rev p 0 (m+1)).getD k 0=if k<m+1 then p.getD (m-k) 0 else p.getD k 0:=fun k=>by
  have:=getElem?_mirror_all (xs:=p) (i:=0) (j:=m+1) (by rw [P.size];exact Nat.succ_le_succ bl) k
  by_cases hk:k<m+1
  ·rw [if_pos hk];rw [if_pos ⟨Nat.zero_le _,hk⟩,Nat.zero_add,Nat.add_sub_cancel] at this;exact zed this
  ·rw [if_neg hk];rw [if_neg fun z=>hk z.2] at this;exact zed this
 refine ob8 (zkX O Pq (M+2-(m+1)) m (by lia)) ?_
 intro m' a2 b2 c2 J;refine ⟨m',kas_rev p 0 (m+1),KGo.bind a ?_,hq,by lia,zgP O fun i h2=>?_⟩
 ·rw [if_neg e',if_neg (Nat.lt_irrefl 1)];exact KGo.bind a' (KGo.bind a2 rfl)
 ·by_cases hi:i<m
  ·rw [hm,hm,if_pos (Nat.lt_succ_of_lt hi),if_pos (Nat.succ_lt_succ hi)];obtain ⟨j,rfl⟩:∃j,m=j+(i+1):=⟨m-(i+1),(Nat.sub_add_cancel hi).symm⟩;rw [Nat.add_sub_cancel,show j+(i+1)-i=j+1 by lia]
   cases j with
   |zero=>exact d
   |succ j=>exact c' (j+1) (Nat.succ_le_succ (Nat.zero_le _)) (by lia)
  ·exact c2 i (Nat.not_lt.mp hi) (Nat.lt_of_succ_lt_succ h2)
theorem ze7 (O:LtOk lt N) {p:Array Nat} (P:PermN N p) {k:Nat} (hk:k<N):∀(f l r:Nat),r<=l+f->l<=r->r<=k->(∀i,i<l->lt (p.getD i 0) (p.getD k 0)=true)->(∀i,r<=i->i<k->lt (p.getD k 0) (p.getD i 0)=true) ->
  UpTo lt p k->∃m,KGo lt N (kas_place p k f l r) m/\m<=k/\(∀i,i<m->lt (p.getD i 0) (p.getD k 0)=true)/\(∀i,m<=i->i<k->lt (p.getD k 0) (p.getD i 0)=true)
 | 0,l,r,hf,hlr,hr,h1,h2,_=>⟨l,rfl,qak hlr hr,h1,fun i hi=>h2 i (qak hf hi)⟩
 |f+1,l,r,hf,hlr,hr,h1,h2,U=>by
  unfold kas_place
  by_cases e:l>=r
  ·rw [if_pos e];exact ⟨l,rfl,qak hlr hr,h1,fun i hi=>h2 i (qak e hi)⟩
  ·rw [if_neg e];have c1:l<=(l+r)/2:=by lia
   have c2:(l+r)/2<r:=by lia
   generalize (l+r)/2=c at *;have ck:=Nat.lt_of_lt_of_le c2 hr;have q1:=P.lt k hk;have q2:=P.lt c (Nat.lt_trans ck hk);cases hc:lt (p.getD k 0) (p.getD c 0) with
   |true=>
    refine ob1 (ze7 O P hk f l c (Nat.le_of_lt_succ (Nat.lt_of_lt_of_le c2 hf)) c1 (Nat.le_of_lt ck) h1 (fun i hi hik=>(Nat.eq_or_lt_of_le hi).elim (fun e=>e▸hc) fun g=>O.tr _ _ _ hc (U _ _ g hik)) U) ?_;intro m a b;exact ⟨m,⟨⟨q1,q2⟩,by show KGo lt N (if lt (p.getD k 0) (p.getD c 0)=true then _ else _) _;rw [hc];exact a⟩,b⟩
   |false=>
    have hd:=O.tot _ _ q1 q2 (P.inj _ _ ck hk).symm hc;refine ob1 (ze7 O P hk f (c+1) r (by lia) c2 hr (fun i hi=>(Nat.eq_or_lt_of_le (Nat.le_of_lt_succ hi)).elim (fun e=>e▸hd) fun g=>O.tr _ _ _ (U _ _ g ck) hd) h2 U) ?_
    intro m a b;exact ⟨m,⟨⟨q1,q2⟩,by show KGo lt N (if lt (p.getD k 0) (p.getD c 0)=true then _ else _) _;rw [hc];exact a⟩,b⟩
theorem zmV (O:LtOk lt N):∀(f k:Nat) {p:Array Nat},p.toList.Perm (List.range N)->k+f=N->UpTo lt p k ->
  ∃q,KGo lt N (kas_bin f p k) q/\q.toList.Perm (List.range N)/\UpTo lt q N
 | 0,k,p,hp,hk,U=>⟨p,rfl,hp,hk▸U⟩
 |f+1,k,p,hp,hk,U=>by
  have P:=PermN.of hp;have kN:k<N:=by lia
  refine ob8 (ze7 O P kN k 0 k (Nat.le_add_left _ _) (Nat.zero_le _) (qal _) (fun i hi=>absurd hi (Nat.not_lt_zero _)) (fun i h1 h2=>absurd h2 (Nat.not_lt.mpr h1)) U) ?_;intro m a hm h1 h2;have hq:(bubble p k (k-m)).toList.Perm (List.range N):=(Array.perm_iff_toList_perm.mp (bubble_perm p k _)).trans hp;have hg:∀i,(bubble p k (k-m)).getD i 0=if i=m then p.getD k 0 else if m<i/\i<=k then p.getD (i-1) 0 else p.getD i 0:=fun i=>by
   have:=getElem?_bubble (xs:=p) (src:=k) (by rw [P.size];exact kN) (k-m) (Nat.sub_le _ _) i
   rw [Nat.sub_sub_self hm] at this
   by_cases e1:i=m
   ·rw [if_pos e1] at this ⊢;exact zed this
   ·rw [if_neg e1] at this ⊢
    by_cases e2:m<i/\i<=k
    ·rw [if_pos e2] at this ⊢;exact zed this
    ·rw [if_neg e2] at this ⊢;exact zed this
  have g1:∀i,i<m->(bubble p k (k-m)).getD i 0=p.getD i 0:=fun i hi=>by rw [hg,if_neg (Nat.ne_of_lt hi),if_neg fun z=>Nat.lt_irrefl _ (Nat.lt_trans z.1 hi)]
  have g2:(bubble p k (k-m)).getD m 0=p.getD k 0:=by rw [hg,if_pos rfl]
  have g3:∀i,m<=i->i<k->(bubble p k (k-m)).getD (i+1) 0=p.getD i 0:=fun i hi hk=>by rw [hg,if_neg (Nat.ne_of_gt (Nat.lt_succ_of_le hi)),if_pos ⟨Nat.lt_succ_of_le hi,hk⟩];rfl
  have U':UpTo lt (bubble p k (k-m)) (k+1):=zgP O fun i hi=>by
   have hi:=Nat.lt_of_succ_lt_succ hi
   rcases Nat.lt_trichotomy i m with z |z |z
   ·rw [g1 i z]
    rcases Nat.eq_or_lt_of_le (Nat.succ_le_of_lt z) with y |y
    ·rw [show i+1=m from y,g2];exact h1 i z
    ·rw [g1 _ y];exact U _ _ (Nat.lt_succ_self i) (Nat.lt_of_lt_of_le y hm)
   ·subst z;rw [g2,g3 i (qal _) hi];exact h2 i (qal _) hi
   ·obtain ⟨j,rfl⟩:∃j,i=j+1:=⟨i-1,by lia⟩
    rw [g3 j (Nat.le_of_lt_succ z) (Nat.lt_of_succ_lt hi),g3 (j+1) (Nat.le_of_lt z) hi];exact U _ _ (Nat.lt_succ_self j) hi
  refine ob1 (zmV O f (k+1) hq (by lia) U') ?_
  intro q b c;exact ⟨q,KGo.bind a b,c⟩
theorem znh (O:LtOk lt N) (h2:2<=N):∃q,KGo lt N (kas_sort N) q/\q.toList.Perm (List.range N)/\UpTo lt q N:=by
 obtain ⟨M,rfl⟩:∃M,N=M+2:=⟨N-2,(Nat.sub_add_cancel h2).symm⟩;refine ob17 (zmo O (p:=List.toArray (List.range (M+2))) (List.Perm.refl _)) ?_;intro m p a hp hm U;have e0:max (m+1) 1=m+1:=Nat.max_eq_left (Nat.succ_le_succ (Nat.zero_le m))
 by_cases e:m+1<M+2
 ·refine ob1 (zmV O (M+2-(m+1)) (m+1) hp (Nat.add_sub_cancel' (Nat.le_of_lt e)) U) ?_;intro q b c;refine ⟨q,KGo.bind a ?_,c⟩;rw [if_pos e];show KGo lt (M+2) (kas_bin (M+2-max (m+1) 1) p (max (m+1) 1)) q;rw [e0];exact b
 ·refine ⟨p,KGo.bind a ?_,hp,by rw [show M+2=m+1 from Nat.le_antisymm (Nat.not_lt.mp e) (Nat.succ_le_succ hm)];exact U⟩
  rw [if_neg e];rfl
end
section
variable {prog:Program} {w:World} {A:Around} {E:Value->Shared->Prop} {s:Shared}
noncomputable def zbg (h:Heap) (a:Addr) (vs:List Value):Heap:=((h.update a (Obj.mapSeq fun J => #[])).push (seqObj "tuple" vs.toArray 0)).push (seqObj "list" #[] 0)
variable {vs:List Value}
theorem zns:(List.range vs.length).map (fun i=>vs.getD i Value.none)=vs:=by
 apply List.ext_getElem?
 intro i;rw [qau]
 by_cases h:i<vs.length
 ·simp [h,List.getD]
 ·simp [h]
theorem zf9 {a:Addr} {n:Nat} {P:PySem.Fin->Shared->Prop} {κ:SortKind} {lt:Nat->Nat->Bool} (ho:s.heap.get? a=some (seqObj "list" vs.toArray n)) (h64:vs.length<64) (O:LtOk lt vs.length)
  (hk:2<=vs.length->∀{E:Value->Shared->Prop} (Q:SortKind->Shared->Prop),Q κ { s with heap:=zbg s.heap a vs }->wpAny (model prog w) A (keyKind' vs.toArray) Q E { s with heap:=zbg s.heap a vs })
  (hc:∀i j C,i<vs.length->j<vs.length->C (lt i j) { s with heap:=zbg s.heap a vs }->kas_ask prog w A κ vs i j C { s with heap:=zbg s.heap a vs })
  (h:∀q:Array Nat,q.toList.Perm (List.range vs.length)->UpTo lt q vs.length->P (.done (.ret .none)) { s with heap:=sortedHeap s.heap a vs (List.toArray (q.toList.map fun i=>vs.getD i Value.none)) }) :
  wpAny (model prog w) A (Builtin.«list.sort» ⟨[.ref a],[]⟩) P E s:=by
 rw [list_sort_plain];have ha:a<s.heap.objs.size:=Heap.lt_size ho;refine qaa (listItems_at ho rfl ?_);refine qaa (listUpdate_at ho rfl ?_ (by rw [List.size_toArray,sizeLine_eq];lia) (Nat.zero_le _))
 obtain ⟨e1,ho1⟩:∃e1,(s.heap.update a (Obj.mapSeq fun J => #[])).get? a=some (seqObj "list" #[] e1):=⟨_,get?_update_seq ho (fun J => #[])⟩;refine qaa (seqEpoch_at ho1 rfl ?_);refine qaa (wpAny_newTuple ?_ (by show vs.length<=_;rw [sizeLine_eq];lia))
 refine qaa (wpAny_newList ?_ (Nat.zero_le _));refine wpAny_holding ?_;have ho6:(zbg s.heap a vs).get? a=some (seqObj "list" #[] e1):=by
  unfold zbg;rw [Heap.get?_push_ne _ _ _ (by rw [size_push',Heap.size_update];exact Nat.ne_of_lt (Nat.lt_succ_of_lt ha)),Heap.get?_push_ne _ _ _ (by rw [Heap.size_update];exact Nat.ne_of_lt ha)]
  exact ho1
 show wpAny (model prog w) A _ P E { s with heap:=zbg s.heap a vs };dsimp only
 by_cases h2:vs.toArray.size<2
 ·rw [if_pos h2,if_pos h2];refine qaa (qab ?_);rw [StateT.run_pure];refine qaa (qab ?_);dsimp only;have hz:vs.length<2:=by simpa using h2
  have e0:(arrOf (SortSt.mk' general' (vs.toArray.zip vs.toArray) #[] 7 none)).map (·.2)=List.toArray ((List.toArray (List.range vs.length)).toList.map fun i=>vs.getD i Value.none):=by
   show (vs.toArray.zip vs.toArray).map (·.2)=_;rw [show (List.toArray (List.range vs.length)).toList=List.range vs.length from rfl,zns]
   apply Array.toList_inj.mp
   rw [Array.toList_map,Array.toList_zip];exact List.map_snd_zip (qal _)
  rw [e0];refine qaa (seqEpoch_at ho6 rfl ?_);refine qaa (listUpdate_at ho6 rfl ?_ (Nat.zero_le _) (by rw [List.size_toArray,qac,sizeLine_eq];simp;lia))
  show wpAny _ _ (do
   if let some e:=failedOf (SortSt.mk' general' (vs.toArray.zip vs.toArray) #[] 7 none) then rule "list.sort.comparison-raised";throw e
   if (e1 != e1)=true then rule "list.sort.modified";raiseError "ValueError" "list modified during sort"
   ret .none) _ _ _
  simp only [bne_self_eq_false,Bool.false_eq_true,if_false];exact qab (h (List.toArray (List.range vs.length)) (List.Perm.refl _) fun i j hij hj=>by lia)
 ·rw [if_neg h2,if_neg h2];have hz:2<=vs.length:=by
   have:¬vs.length<2:=by simpa using h2
   lia
  refine qaa (hk hz _ ?_);refine ob6 (znh O hz) ?_;intro q g hp U;refine qaa (wpAny_mono (kat_run (s:={ s with heap:=zbg s.heap a vs }) (Q:=fun st' s'=>s'={ s with heap:=zbg s.heap a vs }/\arrOf st'=q.map (kas_item (vs.toArray.zip vs.toArray))/\failedOf st'=none)
   (G:=fun p s'=>s'={ s with heap:=zbg s.heap a vs }/\p=q) rfl hz h64 (fun p' st' s' a1 a2 a3 a4=>⟨a4.1,by rw [a2,a4.2],a3⟩) (KGo.wp hc ⟨rfl,rfl⟩ g)) ?_ fun J J e=>e)
  intro zz3;obtain ⟨⟨⟩,st'⟩:=zz3;intro s' zz4;refine ob19 zz4 ?_;clear zz4;intro ee61;subst ee61;intro har hf;dsimp only;rw [kat_snds rfl har];refine qaa (seqEpoch_at ho6 rfl ?_);have hql:q.toList.length=vs.length:=by rw [hp.length_eq,List.length_range]
  refine qaa (listUpdate_at ho6 rfl ?_ (Nat.zero_le _) (by rw [List.size_toArray,qac,hql,sizeLine_eq];lia))
  rw [hf];simp only [bne_self_eq_false,Bool.false_eq_true,if_false];exact qab (h q hp U)
def zjt (h:Heap) (v:Value) (p:Int×Int):Prop:=∃b t u m,v=.ref b/\h.get? b=some (seqObj "tuple" #[.int p.1 t,.int p.2 u] m)
noncomputable def lexB (p q:Int×Int):Bool:=decide (p.1<q.1)||(p.1==q.1&&decide (p.2<q.2))
theorem lexB_iff {p q:Int×Int}:lexB p q=true↔zaK p q:=by simp [lexB,zaK]
theorem zoy {v y:Value} {p q:Int×Int} {C:Bool->Shared->Prop} (hv:zjt s.heap v p) (hw:zjt s.heap y q) (h:C (lexB p q) s):wpAny (model prog w) A (keyLt' (tuples' true) v y) C E s:=by
 refine ob21 hv ?_;clear hv;intro b t u m ee62;subst ee62;intro hb;refine ob21 hw ?_;clear hw;intro b' t' u' m' ee63;subst ee63;intro hb';refine kat_lt hb rfl hb' rfl (kat_cons (wpAny_eqBool_int (kat_go (fun e=>kat_yes (kat_cons (wpAny_eqBool_int (kat_go (fun e2=>kat_yes (kat_nil ?_)) fun e2=>kat_no (kat_one _ _ (PyProof.Rows.lt_int ?_)))))) fun e=>kat_no (oneLt_int ?_))))
 ·have:lexB p q=false:=by simp only [beq_iff_eq] at e e2;simp [lexB,e,e2]
  rw [this] at h;exact h
 ·have:lexB p q=decide (p.2<q.2):=by simp only [beq_iff_eq] at e;simp [lexB,e]
  rw [this] at h;exact h
 ·have:lexB p q=decide (p.1<q.1):=by simp only [lexB,e,Bool.false_and,Bool.or_false]
  rw [this] at h;exact h
theorem zhH {h:Heap}:∀{vs:List Value} {ps:List (Int×Int)},vs.length=ps.length->(∀i,i<ps.length->zjt h (vs.getD i Value.none) (ps.getD i (0,0))) ->
  ∃fs,KatTups h vs fs/\fs.length=vs.length/\∀v∈fs,∃i t,v=.int i t
 | [],[],_,_=>⟨[],.nil,rfl,by simp⟩
 | [],_::_,e,_=>by simp at e
 |_::_,[],e,_=>by simp at e
 |v::vs,p::ps,e,h=>by
  obtain ⟨fs,h1,h2,h3⟩:=zhH (vs:=vs) (ps:=ps) (by simpa using e) (fun i hi=>by have:=h (i+1) (by simp;lia);simpa using this)
  refine ob21 (h 0 (by simp)) ?_
  intro b t u m e' hb;simp only [List.getD_cons_zero] at e' hb;subst e';refine ⟨.int p.1 t::fs,.cons hb rfl rfl rfl h1,by simp [h2],?_⟩
  intro v hv
  rcases qad.mp hv with rfl |hv
  ·exact ⟨_,_,rfl⟩
  ·exact h3 v hv
theorem zoY {a b c:Int×Int} (h1:zaK a b) (h2:zaK b c):zaK a c:=by
 rcases h1 with h1 |⟨e1,h1⟩
 ·exact .inl (h2.elim (Int.lt_trans h1) fun h=>h.1▸h1)
 ·exact h2.elim (fun h=>.inl (e1▸h)) fun h=>.inr ⟨e1.trans h.1,Int.lt_trans h1 h.2⟩
theorem znD {a b:Int×Int} (h:¬zaK a b) (ne:a≠b):zaK b a:=by
 rcases Int.lt_trichotomy a.1 b.1 with z |z |z
 ·exact absurd (.inl z) h
 ·rcases Int.lt_trichotomy a.2 b.2 with y |y |y
  ·exact absurd (.inr ⟨z,y⟩) h
  ·exact absurd (Prod.ext z y) ne
  ·exact .inr ⟨z.symm,y⟩
 ·exact .inl z
theorem zoZ {ps:List (Int×Int)} (hn:ps.Nodup):LtOk (fun i j=>lexB (ps.getD i (0,0)) (ps.getD j (0,0))) ps.length:=by
 refine ⟨fun i=>?_,fun i j k h1 h2=>lexB_iff.mpr (zoY (lexB_iff.mp h1) (lexB_iff.mp h2)),fun i j hi hj hij h=>lexB_iff.mpr (znD (fun x=>qan (h.symm.trans (lexB_iff.mpr x))) ?_)⟩
 ·simp [lexB]
 ·rw [List.getD_eq_getElem?_getD,List.getD_eq_getElem?_getD,qas hi,qas hj];have hp:=List.pairwise_iff_getElem.mp hn
  rcases Nat.lt_or_gt_of_ne hij with q |q
  ·exact hp i j hi hj q
  ·exact (hp j i hj hi q).symm
theorem zg8 {h:Heap} {a b:Addr} {o:Obj} (hb:h.get? b=some o) (hba:b≠a):(zbg h a vs).get? b=some o:=by
 unfold zbg;refine zad _ _ (zad _ _ ?_);rw [Heap.get?_update_ne _ _ _ _ hba];exact hb
theorem zfQ {l:Addr} {ps:List (Int×Int)} {Q:Value->Shared->Prop} (hl:s.heap.IsList l vs.toArray) (e:vs.length=ps.length) (hP:∀i,i<ps.length->zjt s.heap (vs.getD i Value.none) (ps.getD i (0,0)))
  (hn:ps.Nodup) (h64:ps.length<64)
  (h:∀q:Array Nat,q.toList.Perm (List.range ps.length)->(q.toList.map fun i=>ps.getD i (0,0)).Pairwise zaK->Q (.ref (s.heap.objs.size+1)) { s with heap:=sortedAll s.heap vs (List.toArray (q.toList.map fun i=>vs.getD i Value.none)) }) :
  wpAny (model prog w) A (call (.builtin "sorted") [.ref l]) Q E s:=by
 refine Calls.call_function_entry kind_sorted plain_sorted entry_sorted (args_sorted1 _) ?_;unfold Builtin.«sorted»;refine qaa (m:=checkCount "sorted" 1 1 _) (qab ?_);refine qaa (collect_list hl ?_ (by rw [sizeLine_eq];lia))
 refine qaa (wpAny_newList ?_ (by rw [sizeLine_eq];lia))
 have hsz:((s.heap.push (seqObj "list" #[] 0)).update s.heap.objs.size (Obj.mapSeq (· ++ vs.toArray))).objs.size=s.heap.objs.size+1:=by
  rw [Heap.size_update,size_push']
 have hoL:(((s.heap.push (seqObj "list" #[] 0)).update s.heap.objs.size (Obj.mapSeq (· ++ vs.toArray))).push (seqObj "list" vs.toArray 0)).get? (s.heap.objs.size+1)=some (seqObj "list" vs.toArray 0):=by
  rw [←hsz];exact qax _ rfl
 have keep:∀b o,s.heap.get? b=some o->(((s.heap.push (seqObj "list" #[] 0)).update s.heap.objs.size (Obj.mapSeq (· ++ vs.toArray))).push (seqObj "list" vs.toArray 0)).get? b=some o:=fun b o q=>by
  have hlt:b<s.heap.objs.size:=Heap.lt_size q;rw [Heap.get?_push_ne _ _ _ (by rw [hsz];exact Nat.ne_of_lt (Nat.lt_succ_of_lt hlt)),Heap.get?_update_ne _ _ _ _ (Nat.ne_of_lt hlt),Heap.get?_push_ne _ _ _ (Nat.ne_of_lt hlt)]
  exact q
 show wpAny _ _ _ _ _ { s with heap:=((s.heap.push (seqObj "list" #[] 0)).update s.heap.objs.size (Obj.mapSeq (· ++ vs.toArray))).push (seqObj "list" vs.toArray 0) };rw [hsz];generalize hH:((s.heap.push (seqObj "list" #[] 0)).update s.heap.objs.size (Obj.mapSeq (· ++ vs.toArray))).push (seqObj "list" vs.toArray 0)=H at *;have hT:∀i,i<ps.length->zjt (zbg H (s.heap.objs.size+1) vs) (vs.getD i Value.none) (ps.getD i (0,0)):=fun i hi=>by
  refine ob21 (hP i hi) ?_;intro b t u m e1 e2;exact ⟨b,t,u,m,e1,zg8 (keep _ _ e2) (Nat.ne_of_lt (Nat.lt_succ_of_lt (Heap.lt_size e2)))⟩
 have O:=zoZ hn;rw [←e] at O;refine qaa (wpAny_holding (wpAny_call_entry slot_list_sort ⟨_,hoL,rfl⟩ entry_list_sort (zf9 (s:={ s with heap:=H }) (κ:=tuples' true) hoL (by lia) O (fun h2 E' Q' q=>?_) (fun i j C hi hj q=>?_) fun q hp U=>⟨_,rfl,?_⟩) (args_list_sort _)))
 ·refine ob6 (zhH e hT) ?_;intro fs k1 k2 k3;refine kat_kind (T:=.type "int") k1 (by lia) (fun v hv=>?_) (by decide) q
  refine ob20 (k3 v hv) ?_;intro i t ee64;subst ee64;exact .now
 ·exact zoy (hT i (by lia)) (hT j (by lia)) q
 ·refine qab ⟨_,rfl,?_⟩;have:=h q (by rw [←e];exact hp) (by
   refine List.pairwise_iff_getElem.mpr fun i j hi hj hij=>?_;rw [List.getElem_map,List.getElem_map];have hql:q.toList.length=vs.length:=by rw [hp.length_eq,List.length_range]
   have hi':i<q.size:=by simpa using hi
   have hj':j<q.size:=by simpa using hj
   have:=U i j hij (by rw [←hql];simpa using hj)
   rw [lexB_iff] at this
   simpa [Array.getD,hi',hj'] using this)
  unfold sortedAll at this;rw [hH] at this;exact this
end
section
variable {C:Cx} {A:Around} {E:Value->Shared->Prop} {aa:Store} {s:Shared} {Q:V->Store->Prop}
theorem zjX {ps:List (Int×Int)}:(List.range ps.length).map (fun i=>ps.getD i (0,0))=ps:=by
 apply List.ext_getElem?
 intro i;rw [qau]
 by_cases h:i<ps.length
 ·simp [h,List.getD]
 ·simp [h]
theorem zjx {h:Heap} {f:Nat->V} {g:Nat->Value}:∀{l:List Nat},(∀i∈l,VR h (f i) (g i))->VRs h (l.map f) (l.map g)
 | [],_=>.nil
 |i::l,k=>.cons (k i (.head _)) (zjx fun j hj=>k j (.tail _ hj))
theorem zli {h:Heap} {p:Int×Int} {x:Value} (v:VR h (pr p) x):zjt h x p:=by
 refine ob10 v.tup_of ?_;intro a xs n ee65;subst ee65;intro ha hX;cases hX with
 |cons v1 hX=>
  cases hX with
  |cons v2 hX=>
   cases hX;refine ob14 v1.int_of ?_;intro t ee66;subst ee66;refine ob14 v2.int_of ?_;intro u ee67;subst ee67;exact ⟨a,t,u,n,rfl,ha⟩
theorem ziJ {a:Addr} {vs:List V} (r:Rel C aa s.heap) (ha:aa a=some (.list vs)) (q:zni vs fun ws=>Mine.Internal.alloc aa (.list ws) Q):wpAny C.M A (call (.builtin "sorted") [.ref a]) (PostV C aa s Q) E s:=by
 refine ob26 q ?_;clear q;intro ps ee68;subst ee68;intro hn h64 q;refine ob2 (r.list ha) ?_;intro xs n hL hX J;have e:xs.length=ps.length:=by have:=hX.length;simpa using this.symm
 have hV:∀i,i<ps.length->VR s.heap (pr (ps.getD i (0,0))) (xs.getD i Value.none):=fun i hi=>by
  obtain ⟨b,h1,h2⟩:=hX.get (i:=i) (a:=pr (ps.getD i (0,0))) (by rw [qau,List.getD_eq_getElem?_getD,qas hi];rfl)
  rw [List.getD_eq_getElem?_getD (l:=xs),h1];exact h2
 refine zfQ hL.isList e (fun i hi=>zli (hV i hi)) hn h64 fun p hp hs=>?_;have hq:=q _ (by have:=hp.map fun i=>ps.getD i (0,0);rw [zjX] at this;exact this) hs
 refine ob14 (sortedAll_at s.heap xs (List.toArray (p.toList.map fun i=>xs.getD i Value.none))) ?_;intro c hc;refine zbH (s:=s) (h':=sortedAll s.heap xs (List.toArray (p.toList.map fun i=>xs.getD i Value.none))) (xs:=p.toList.map fun i=>xs.getD i Value.none) (n:=c) (t:=s.toks) r hq (fun b ob hb=>sortedAll_old hb) ?_ (Nat.le_succ _) hc ?_ ?_
 ·unfold sortedAll sortedHeap;simp only [Heap.size_update,Heap.size_push];lia
 ·rw [List.map_map];exact zjx fun i hi=>hV i (List.mem_range.mp (hp.subset hi))
 ·have:=hp.length_eq;rw [List.length_range] at this;rw [qac,qac,this];unfold zao;lia
end
end Mine.Internal
end
section
namespace Mine.Internal
open PySem PySem.W PySem.Calls PyProof.Rows
section
variable {C:Cx} {A:Around} {E:Value->Shared->Prop} {aa:Store} {s:Shared} {Q:V->Store->Prop}
theorem ints_get':∀{vs:List V} {ns:List Int},ints? vs=some ns->vs=ns.map V.int
 | [],bs,e=>by simp [ints?] at e;subst e;rfl
 |.int b::r,bs,e=>by
  simp only [ints?,Option.map_eq_some_iff] at e;refine ob1 e ?_;clear e;intro bs' e1 ee69;subst ee69;rw [ints_get' e1];rfl
 |.none::_,_,e |.bool _::_,_,e |.str _::_,_,e |.tup _::_,_,e |.ref _::_,_,e=>by simp [ints?] at e
theorem zjr (ns:List Int):(ns.map V.int).all zc9=true:=by simp [zc9]
theorem zha {a b:List Int} (h:a.map V.int=b.map V.int):a=b:=by
 induction a generalizing b with
 |nil=>cases b with
  |nil=>rfl
  |cons _ _=>cases h
 |cons x a ih=>cases b with
  |nil=>cases h
  |cons y b=>simp only [List.map_cons,List.cons.injEq,V.int.injEq] at h;rw [h.1,ih h.2]
variable {ns:List Int}
theorem zi9 {vs:List Value} (hl:vs.length=ns.length) (h:∀(j:Nat) v,vs[j]?=some v->∃k,ns[j]?=some k/\Value.isInt k v=true):IntsAre vs ns:=by
 induction vs generalizing ns with
 |nil=>cases ns with
  |nil=>exact .nil
  |cons _ _=>simp at hl
 |cons v vs ih=>cases ns with
  |nil=>simp at hl
  |cons n ns=>
   refine ob1 (h 0 v rfl) ?_;intro k hk hv;simp at hk;subst hk;have:∃t,v=.int n t:=by
    cases v<;>simp [Value.isInt] at hv;subst hv;exact ⟨_,rfl⟩
   refine ob14 this ?_;clear this;intro t ee70;subst ee70;exact .cons _ _ (ih (by simpa using hl) fun j v hv=>by simpa using h (j+1) v (by simpa using hv))
theorem zfS {a:Addr} {ks:List V} {P:Value->Shared->Prop} (hl:C.base.NoLimit) (hh:A.handled=none) (r:Rel C aa s.heap) (ha:aa a=some (.dict ks)) (hn:ints? ks=some ns) (h64:ks.length<64)
  (h:∀(h':Heap) (tk:Nat) (vs:List Value) (out:Array Value) (ns':List Int),(∀b o,s.heap.get? b=some o->h'.get? b=some o)->s.heap.objs.size<=h'.objs.size->IntsAre out.toList ns'->ns'.Perm ns->ns'.Pairwise (· <= ·) ->
   P (.ref h'.objs.size) { s with heap:=sortedHeap (h'.push (seqObj "list" vs.toArray 0)) h'.objs.size vs out,toks:=tk }) :
  wpAny C.M A (call (.builtin "sorted") [.ref a]) P E s:=by
 have hks:=ints_get' hn;refine ob16 (r.tr a _ ha) ?_;intro hK J;obtain ⟨bh,e1,hd⟩:=hK.ints (by rw [hks];exact zjr ns)
 have:=zha (e1.symm.trans hks);subst this;have hlen:bh.length<64:=by rw [hks] at h64;simpa using h64
 refine ob14 hd.dictAt ?_;intro ep hat;refine Calls.call_function_entry kind_sorted plain_sorted entry_sorted (args_sorted1 _) ?_;unfold Builtin.«sorted»;refine qaa (m:=checkCount "sorted" 1 1 _) (qab ?_);refine qaa (zav (kdu_collect (A:=A.in1) (kdl_dict (knd:=intKind C.prog C.w) (kvs:=bh.map fun n=>(n,Value.bool true)) (ep:=ep) (zcT r hl ha)) hh hat (by rw [qac,sizeLine_eq];lia) fun h' tk acc hk hacc hsz=>?_))
 have hal:acc.toList.length=bh.length:=by rw [Array.length_toList,hacc.1,qac]
 have hI:IntsAre acc.toList bh:=zi9 hal fun j v hv=>by
  obtain ⟨k,x,hkx,hv'⟩:=hacc.2 j v (by rw [←Array.getElem?_toList];exact hv)
  rw [qau] at hkx;refine ob1 (Option.map_eq_some_iff.mp hkx) ?_;intro m hm e;cases e;exact ⟨_,hm,hv'⟩
 refine qaa (wpAny_newList ?_ (by rw [hal,sizeLine_eq];lia))
 have hoL:(h'.push (seqObj "list" acc.toList.toArray 0)).get? h'.objs.size=some (seqObj "list" acc.toList.toArray 0):=qax _ rfl;refine qaa (wpAny_holding (wpAny_call_entry slot_list_sort ⟨_,hoL,rfl⟩ entry_list_sort (list_sort_tree hoL hI (by lia) fun out ns' a1 a2 a3=>⟨_,rfl,?_⟩) (args_list_sort _)))
 exact qab ⟨_,rfl,h h' tk acc.toList out ns' hk hsz a1 a2 a3⟩
theorem ziL {a:Addr} {ks:List V} (hl:C.base.NoLimit) (hh:A.handled=none) (r:Rel C aa s.heap) (ha:aa a=some (.dict ks)) (hn:ints? ks=some ns) (h64:ks.length<64) (q:Mine.Internal.alloc aa (.list ((ns.mergeSort (fun a b=>decide (a<=b))).map V.int)) Q) :
  wpAny C.M A (call (.builtin "sorted") [.ref a]) (PostV C aa s Q) E s:=by
 refine zfS hl hh r ha hn h64 fun h' tk vs out ns' hk hsz hI' hp hs=>?_;rw [zdy hp hs] at q;refine ob14 (sortedHeap_at (h:=h'.push (seqObj "list" vs.toArray 0)) (vs:=vs) (out:=out) (qax h' (o:=seqObj "list" vs.toArray 0) rfl)) ?_;intro c hc;refine zbH (s:=s) (h':=sortedHeap (h'.push (seqObj "list" vs.toArray 0)) h'.objs.size vs out) (xs:=out.toList) (n:=c) (t:=tk) r q (fun b ob hb=>?_) ?_ hsz (by simpa using hc) (zfg hI') ?_
 ·have hlt:b<h'.objs.size:=Heap.lt_size (hk b ob hb);rw [sortedHeap_old (Nat.ne_of_lt hlt) (by rw [Heap.size_push];exact Nat.lt_succ_of_lt hlt)]
  exact zad _ _ (hk b ob hb)
 ·unfold sortedHeap;simp only [Heap.size_update,Heap.size_push];lia
 ·have:=hp.length_eq;have e2:ks.length=ns.length:=by rw [zdJ hn];simp
  simp only [qac,zao];lia
theorem ziX {md:Bool} {v:V} {K:List V->Prop} (h:zg1 md aa v K):∃a vs,v=.ref a/\K vs/\(aa a=some (.list vs)\/(md=true/\aa a=some (.dict vs))):=by
 unfold zg1 at h;cases v with
 |ref a=>
  dsimp only at h
  split at h
  ·exact ⟨_,_,rfl,h,.inl (by assumption)⟩
  ·exact ⟨_,_,rfl,h.2,.inr ⟨h.1,by assumption⟩⟩
  ·exact h.elim
 |_=>exact h.elim
theorem zfR {vs ws:List V} (h:zdh vs=some ws):∃ns,ints? vs=some ns/\vs.length<64/\ws=(ns.mergeSort (fun a b=>decide (a<=b))).map V.int:=by
 unfold zdh at h
 split at h
 ·split at h
  ·cases h;exact ⟨_,by assumption,by assumption,rfl⟩
  ·cases h
 ·cases h
theorem zjL {md:Bool} {u:V} {x:Value} (hl:C.base.NoLimit) (hh:md=true->A.handled=none) (r:Rel C aa s.heap) (hu:VR s.heap u x) (q:b1V md .sorted u aa Q) :
  wpAny C.M A (call (.builtin "sorted") [x]) (PostV C aa s Q) E s:=by
 rcases q with q |q
 ·refine lift fun g9 k9=>?_;refine ob2 (ziX q) ?_;intro a vs ee71;subst ee71;intro q ha;refine ob1 (zai q) ?_;intro ws hw q;refine ob6 (zfR hw) ?_;intro ns h1 h2 ee72;subst ee72;cases hu.ref_of
  apply k9
  clear k9 g9
  rcases ha with ha |⟨hm,ha⟩
  ·exact ziK r ha h1 h2 q
  ·exact ziL hl (hh hm) r ha h1 h2 q
 ·refine lift fun g9 k9=>?_;refine ob2 (zat q) ?_;intro a vs ee73;subst ee73;intro ha q;cases hu.ref_of
  apply k9
  clear k9 g9;exact ziJ r ha q
end
section
variable {C:Cx} {A:Around} {E:Value->Shared->Prop} {aa:Store} {s:Shared} {Q:V->Store->Prop}
theorem zc7:entryFor table "dict.update.loop" = some Builtin.«dict.update.loop» := entryFor_of_tree (by kernel_rfl)
theorem zbv:plainId "dict.update.loop" = true:=by decide +kernel
theorem zf6:typeLookup (.type "list") "keys" = pure none:=by rw [typeLookup_type,builtinLookup_eq_fast];kernel_rfl
theorem zkh {a:Addr} {xs:Array Value} {k:Nat} {Q:Option Value->Shared->Prop} (hx:s.heap.get? a=some (seqObj "list" xs k)) (hA:A.handled=none)
  (h:∀h' tk,(∀b o,s.heap.get? b=some o->h'.get? b=some o)->Q none { s with heap:=h',toks:=tk }):wpAny C.M A (getAttr? (.ref a) "keys") Q E s:=by
 refine lift fun g9 k9=>?_;obtain ⟨hp,g,d,tk,os⟩:=s
 apply k9
 clear k9 g9;have hT:∀tk',(⟨hp,g,d,tk',os⟩:Shared).TypeIs (.ref a) "list" := fun J=>⟨_,hx,rfl⟩;have f1:=sub_AttributeError;have f3:=F.slot_list_getattribute.lookup;have f4:=F.slot_list_getattribute.bind (.ref a);have f5:=am_list_getattr_none;have hmiss:=zf6;unfold getAttr? getAttrBy? getAttrBy
 repeat (any_goals (first |assumption |exact hT _ |((with_reducible show wpAny _ _ (call (Value.builtin "list.__getattribute__") _ _) _ _ _);refine call_meets F.slot_list_getattribute (hT _) am_entry_list_getattribute (F.args_list_getattribute_2 _ _) (meets_getattribute_miss_list a xs k #[] "keys" _ hmiss (by decide +kernel) (by size_fits)) ⟨hx,hA,fun h' tk' e hx'=>?_⟩) |wp_step))
 refine ob20 hx'.there ?_;intro t' u' he;show wpAny _ _ (getattributeRaised _ _ _ _ _ _ _) _ _ _;unfold getattributeRaised
 repeat (any_goals (first |assumption |wp_step))
 exact h _ _ fun b o e=>hx'.of.keeps b o e
variable {h:Heap}
theorem VRs.key {ns:List Int} {xs:List Value} (r:VRs h (ns.map fun n=>V.tup [.int n,.bool true]) xs) {i:Nat} (hi:i<ns.length):∃a t m,xs[i]?=some (.ref a)/\h.get? a=some (seqObj "tuple" [Value.int ns[i] t,Value.bool true].toArray m):=by
 refine lift fun g9 k9=>?_;refine ob1 (r.get (i:=i) (a:=.tup [.int ns[i],.bool true]) (by simp [hi])) ?_
 intro x hx hv;refine ob10 hv.tup_of ?_;intro a ys m ee74;subst ee74;intro ha hY;refine ob2 hY.two_of ?_;intro y z ee75;subst ee75;intro p p2;refine ob14 p.int_of ?_;intro t ee76;subst ee76;cases p2.bool_of
 apply k9
 clear k9 g9;exact ⟨a,t,m,hx,ha⟩
theorem znr {a:Addr} {k:Int} {t:Tok} {m:Nat} {Q:List Value->Shared->Prop} (ha:s.heap.get? a=some (seqObj "tuple" [Value.int k t,Value.bool true].toArray m)) (h:Q [.int k t,.bool true] s):wpAny C.M A (Builtin.Dict.pairItems (.ref a)) Q E s:=by
 unfold Builtin.Dict.pairItems;refine qaa (wpAny_typeOf (T := "tuple") ⟨_,ha,rfl⟩ ?_);rw [if_pos (by decide)]
 refine qaa (wpAny_seqItems ha rfl (qab ?_));exact h
theorem zkI {h':Heap} {d:Addr} {kvs:List (Int×Value)} (x:h.DictOf (intKind C.prog C.w) d kvs) (e:h'.get? d=h.get? d):h'.DictOf (intKind C.prog C.w) d kvs:=by
 refine ob27 x ?_;clear x;intro o es ep ho r;exact ⟨o,es,ep,e.trans ho,r⟩
theorem zhr {d:Addr} {kvs:List (Int×Value)} (x:h.DictOf (intKind C.prog C.w) d kvs) {o:Obj} (ho:h.get? d=some o):¬IsT o:=by
 refine ob10 x ?_;clear x;intro o' es ep ho' hc J;rw [ho] at ho';cases ho';exact fun q=>by have:=q.1;rw [hc.1] at this;injection this with this;exact absurd this (by decide)
theorem zgd {it l:Addr} {i:Nat} (x:h.IsListIter it l i) {o:Obj} (ho:h.get? it=some o):¬IsT o:=by
 refine ob6 x ?_;clear x;intro o' ho' hc J;rw [ho] at ho';cases ho';exact fun q=>by have:=q.1;rw [hc] at this;injection this with this;exact absurd this (by decide)
theorem zge {h':Heap} {l:Addr} {xs:Array Value} (x:h.IsList l xs) (e:h'.get? l=h.get? l):h'.IsList l xs:=by
 refine ob1 x ?_;clear x;intro o ho r;exact ⟨o,e.trans ho,r⟩
theorem zkG {l d it:Addr} {ns:List Int} {R:Result->Shared->Prop} (hh:A.handled=none) (hld:l≠d) (hli:l≠it) (hdi:d≠it) (hsz:ns.length<=1000) :
  ∀(k i:Nat) (acc:List Int) (t:Tok) (s:Shared) (xs:List Value),ns.length-i=k->i<=ns.length->acc.length<=i->s.heap.IsListIter it l i->s.heap.IsList l xs.toArray->s.heap.DictOf (intKind C.prog C.w) d (acc.map fun n=>(n,Value.bool true)) ->
   VRs s.heap (ns.map fun n=>V.tup [.int n,.bool true]) xs ->
   (∀(h':Heap) (tk:Nat) (acc':List Int),h'.DictOf (intKind C.prog C.w) d (acc'.map fun n=>(n,Value.bool true))->acc'.map V.int=((ns.drop i).map V.int).foldl (fun d k=>zaY k d) (acc.map V.int)->acc'.length<=ns.length->(∀b o,b≠d->b≠it->s.heap.get? b=some o->h'.get? b=some o)->R (.ok (.ret .none)) { s with heap:=h',toks:=tk }) ->
   codeAny C.M A (.builtin "dict.update.loop" ⟨[.ref d,.ref it,.int i t,.none],[]⟩) R s:=by
 intro k
 induction k with
 |zero=>
  intro i acc t s xs hk hi hacc hit hl hd hv hR;have hin:i=ns.length:=by lia
  have hxl:=hv.length;rw [qac] at hxl;refine codeAny_builtin zc7 ?_;rw [Around.under_plainId zbv _];show wpAny _ A.in1 (pyNext (.ref it) >>= _) _ _ s;refine qaa (wpAny_pyNext_list_end hh hit hl (by simp;lia) fun h' hx=>?_)
  show wpAny _ _ (pure PUnit.unit >>= fun J=>ret Value.none) _ _ _;refine qaa (qab (qab ?_));refine hR h' s.toks acc ?_ ?_ (by lia) fun b o J hb' e=>hx b o hb' e
  ·refine ob27 hd ?_;clear hd;intro o es ep ho r;exact ⟨o,es,ep,hx d o hdi ho,r⟩
  ·rw [hin,List.drop_length];rfl
 |succ k ih=>
  intro i acc t s xs hk hi hacc hit hl hd hv hR;have hlt:i<ns.length:=by lia
  refine ob27 (hv.key hlt) ?_;intro a tk m hx ha;have hai:a≠it:=by rintro rfl;exact zgd hit ha ⟨rfl,_,_,rfl⟩
  refine codeAny_builtin zc7 ?_;rw [Around.under_plainId zbv _];show wpAny _ A.in1 (pyNext (.ref it) >>= _) _ _ s;refine qaa (wpAny_pyNext_list_item hit hl (by simpa using hx) fun h' hit' hs'=>?_)
  have ha':=(hs'.2 a hai).trans ha;have hd1:=zkI hd (hs'.2 d hdi);refine qaa (wpAny_holding (qaa (wpAny_tryCatch (znr (s:={ s with heap:=h' }) ha' ?_))));show wpAny _ _ (holding [Value.int ns[i] tk,Value.bool true] (dictSet d (.int ns[i] tk) (.bool true))) _ _ _;refine wpAny_holding (wpAny_dictSet_pairs (knd:=intKind C.prog C.w) (zaZ ns[i] tk) hd1 (fun h2 hd2 hs2=>?_) (by rw [qac,sizeLine_eq];lia))
  refine ob1 (zd2 ns[i] acc) ?_;intro acc' e1 e2;rw [e2] at hd2;refine qab ⟨plainId_quiet zbv _,?_⟩;have tup2:zaU s.heap h2:=fun b o e q=>by
   have hbi:b≠it:=by rintro rfl;exact zgd hit e q
   have hbd:b≠d:=by rintro rfl;exact zhr hd e q
   exact (hs2.2 b hbd).trans ((hs'.2 b hbi).trans e)
  have hit2:h2.IsListIter it l (i+1):=by
   refine ob1 hit' ?_;clear hit';intro o ho r;exact ⟨o,(hs2.2 it hdi.symm).trans ho,r⟩
  have hlen:acc'.length<=i+1:=by
   have:=zc4 (.int ns[i]) (acc.map V.int);rw [e1] at this;simp at this;lia
  refine ih (i+1) acc' 0 { s with heap:=h2,toks:=s.toks+1 } xs (by lia) hlt hlen hit2 (zge hl ((hs2.2 l hld).trans (hs'.2 l hli))) hd2 (hv.keep tup2) ?_
  intro h3 tk3 acc3 g1 g2 g3 g4;refine hR h3 tk3 acc3 g1 ?_ g3 fun b o hb hb' e=>g4 b o hb hb' ((hs2.2 b hb).trans ((hs'.2 b hb').trans e));rw [g2,←e1,List.drop_eq_getElem_cons hlt,List.map_cons,List.foldl_cons]
theorem zkH {u:V} {x:Value} (hh:A.handled=none) (r:Rel C aa s.heap) (hu:VR s.heap u x)
  (q:zaL aa u fun J vs=>∃ns:List Int,(vs=ns.map (fun n=>V.tup [.int n,.bool true])/\vs.length<=1000)/\Mine.Internal.alloc aa (.dict ((ns.map V.int).foldl (fun d k=>zaY k d) [])) Q):wpAny C.M A (call (.type "dict") [x]) (PostV C aa s Q) E s:=by
 refine lift fun g9 k9=>?_;refine ob2 (zat q) ?_;intro l vs ee77;subst ee77;intro hl q;refine ob28 q ?_;clear q;intro ns hvs hvl q;cases hu.ref_of;refine ob2 (r.list hl) ?_;intro xs m hL hX J
 apply k9
 clear k9 g9;rw [hvs] at hX hvl;rw [qac] at hvl;refine zav (callType_codes (Q₁:=fun obj ag=>obj=.ref s.heap.objs.size/\ag={ s with heap:=s.heap.push { cls:=.type "dict",data:=.dict #[] } }) F.kt_called_dict (F.kt_typeCall_dict_1 _) F.entry_dict_init (kt_code_dict_new _ ⟨rfl,rfl⟩) ?_);intro obj ag zz5;refine ob16 zz5 ?_;clear zz5;intro ee78;subst ee78;intro ee79;subst ee79;have hnew:(s.heap.push { cls:=.type "dict",data:=.dict #[] }).DictOf (intKind C.prog C.w) s.heap.objs.size []:=Heap.DictOf.new s.heap;have hL1:(s.heap.push { cls:=.type "dict",data:=.dict #[] }).get? l=some (seqObj "list" xs.toArray m):=zad _ _ hL;refine ⟨hnew.typeIs,F.args_dict_init_2 _ _,?_⟩;unfold Builtin.«dict.__init__»;refine qaa ?_;unfold Builtin.Dict.selfAndRest;refine qaa (wpAny_notOrdered_dict hnew.typeIs ?_);show wpAny _ _ (pure (s.heap.objs.size,[Value.ref l])) _ _ _;refine qab ?_;show wpAny _ _ (Builtin.Dict.updateFrom "dict.__init__" s.heap.objs.size (.ref l) [] .none) _ _ _;unfold Builtin.Dict.updateFrom;refine qaa (wpAny_typeOf (T := "list") ⟨_,hL1,rfl⟩ ?_);rw [if_pos (by decide)]
 refine qaa (zav (zkh (C:=C) (s:={ s with heap:=s.heap.push { cls:=.type "dict",data:=.dict #[] } }) hL1 hh fun h2 tk2 k2 hsz2=>?_));rw [if_pos (show (none:Option Value).isNone=true from rfl)];refine qaa (wpAny_rule ?_);have hL2:h2.get? l=some (seqObj "list" xs.toArray m):=k2 _ _ hL1;refine qaa (wpAny_pyIter_list (s:={ s with heap:=h2,toks:=tk2 }) ⟨_,hL2,rfl,m,rfl⟩ ?_);refine qab ⟨plainId_quiet zbv _,?_⟩;have hl0:l<s.heap.objs.size:=Heap.lt_size hL;have hsz3:s.heap.objs.size<h2.objs.size:=by
  have:(s.heap.push { cls:=.type "dict",data:=.dict #[] }).objs.size<=h2.objs.size:=hsz2;rw [Heap.size_push] at this;exact this
 have hd2:h2.DictOf (intKind C.prog C.w) s.heap.objs.size []:=hnew.keep k2;have keep3:∀b o,s.heap.get? b=some o->(h2.push { cls:=.type "list_iterator",data:=.fields #[.ref l,.int 0 0] }).get? b=some o:=fun b o e=>zad _ _ (k2 _ _ (zad _ _ e));refine zkG (C:=C) (ns:=ns) (A:=A.in1) hh (Nat.ne_of_lt hl0) (Nat.ne_of_lt (Nat.lt_trans hl0 hsz3)) (Nat.ne_of_lt hsz3) hvl ns.length 0 [] 0 _ xs rfl (Nat.zero_le _) (qal _) ⟨_,qax _ rfl,rfl,rfl⟩ ⟨_,zad _ _ hL2,rfl,m,rfl⟩ (hd2.keep zad) (hX.keep fun b o e J=>keep3 b o e) ?_;intro h3 tk3 acc3 g1 g2 g3 g4;refine ⟨rfl,fun hsz4=>?_⟩;refine ⟨.ref _,_,q _ (r.none_of_ge (qal _)),.ref,.alloc (t:=tk3) r (fun b o e=>g4 b o (Nat.ne_of_lt (Heap.lt_size e)) (Nat.ne_of_lt (Nat.lt_trans (Heap.lt_size e) hsz3)) (keep3 b o e)) hsz4 (qal _) ⟨.inl ⟨acc3,?_,g1⟩,?_⟩⟩
 ·rw [g2];rfl
 ·rw [show (ns.map V.int).foldl (fun d k=>zaY k d) []=acc3.map V.int from g2.symm,qac];unfold zao;lia
end
variable {xs:Array Nat}
theorem zmr {j:Nat} (up:xs.toList.Pairwise (· < ·)):∀(fuel lo hi:Nat),hi-lo<=fuel->lo<=hi->hi<=xs.size->(∀(i v:Nat),i<lo->xs[i]?=some v->v<j)->(∀(i v:Nat),hi<=i->xs[i]?=some v->j<=v) ->
  (∀(i v:Nat),i<SetTable.below.go xs j fuel lo hi->xs[i]?=some v->v<j)/\(∀(i v:Nat),SetTable.below.go xs j fuel lo hi<=i->xs[i]?=some v->j<=v)/\SetTable.below.go xs j fuel lo hi<=xs.size:=by
 have mono:∀(a b u v:Nat),a<b->xs[a]?=some u->xs[b]?=some v->u<v:=by
  intro a b u v h1 h2 h3;rw [←Array.getElem?_toList] at h2 h3;refine ob14 (List.getElem?_eq_some_iff.mp h2) ?_;intro ha ee80;subst ee80;refine ob14 (List.getElem?_eq_some_iff.mp h3) ?_;intro hb ee81;subst ee81;exact List.pairwise_iff_getElem.mp up a b ha hb h1
 intro fuel
 induction fuel with
 |zero=>
  intro lo hi h1 h2 h3 h4 h5;have:lo=hi:=by lia
  subst this;exact ⟨h4,h5,h3⟩
 |succ fuel ih=>
  intro lo hi h1 h2 h3 h4 h5;rw [show SetTable.below.go xs j (fuel+1) lo hi=if lo<hi then if xs.getD ((lo+hi)/2) j<j then SetTable.below.go xs j fuel ((lo+hi)/2+1) hi else SetTable.below.go xs j fuel lo ((lo+hi)/2) else lo from rfl]
  by_cases hlt:lo<hi
  ·rw [if_pos hlt];have hm:(lo+hi)/2<xs.size:=by lia
   have em:xs[(lo+hi)/2]?=some xs[(lo+hi)/2]:=Array.getElem?_eq_getElem hm;have eg:xs.getD ((lo+hi)/2) j=xs[(lo+hi)/2]:=by rw [Array.getD_eq_getD_getElem?,em];rfl
   rw [eg];generalize xs[(lo+hi)/2]=m at *
   by_cases hc:m<j
   ·rw [if_pos hc];refine ih _ _ (by lia) (by lia) h3 (fun i v hi' hv=>?_) h5
    rcases Nat.lt_or_ge i ((lo+hi)/2) with g |g
    ·exact Nat.lt_trans (mono _ _ _ _ g hv em) hc
    ·have:i=(lo+hi)/2:=by lia
     subst this;rw [em] at hv;cases hv;exact hc
   ·rw [if_neg hc];refine ih _ _ (by lia) (by lia) (by lia) h4 fun i v hi' hv=>?_
    rcases Nat.lt_or_ge ((lo+hi)/2) i with g |g
    ·have:=mono _ _ _ _ g em hv;lia
    ·have:i=(lo+hi)/2:=by lia
     subst this;rw [em] at hv;cases hv;lia
  ·rw [if_neg hlt];have:lo=hi:=by lia
   subst this;exact ⟨h4,h5,h3⟩
theorem zfw (up:xs.toList.Pairwise (· < ·)) (j:Nat):(∀(i v:Nat),i<SetTable.below xs j->xs[i]?=some v->v<j)/\(∀(i v:Nat),SetTable.below xs j<=i->xs[i]?=some v->j<=v)/\SetTable.below xs j<=xs.size:=
 zmr up xs.size 0 xs.size (by lia) (Nat.zero_le _) (qal _) (fun i v h=>by lia) fun i v h e=>by
  rw [Array.getElem?_eq_none h] at e;cases e
theorem zjm (up:xs.toList.Pairwise (· < ·)) {i v:Nat} (h:xs[i]?=some v):SetTable.below xs (v+1)=i+1:=by
 refine ob19 (zfw up (v+1)) ?_;intro b1 b2 b3;have hi:i<xs.size:=by
  rcases Nat.lt_or_ge i xs.size with g |g
  ·exact g
  ·rw [Array.getElem?_eq_none g] at h;cases h
 have mono:∀(a b u v:Nat),a<b->xs[a]?=some u->xs[b]?=some v->u<v:=by
  intro a b u v h1 h2 h3;rw [←Array.getElem?_toList] at h2 h3;refine ob14 (List.getElem?_eq_some_iff.mp h2) ?_;intro ha ee82;subst ee82;refine ob14 (List.getElem?_eq_some_iff.mp h3) ?_;intro hb ee83;subst ee83;exact List.pairwise_iff_getElem.mp up a b ha hb h1
 rcases Nat.lt_trichotomy (SetTable.below xs (v+1)) (i+1) with g |g |g
 ·have:=b2 i v (by lia) h;lia
 ·exact g
 ·have e:=Array.getElem?_eq_getElem (xs:=xs) (i:=i+1) (by lia)
  have:=b1 (i+1) _ g e;have:=mono i (i+1) v _ (by lia) h e
  lia
theorem zjl (up:xs.toList.Pairwise (· < ·)):SetTable.below xs 0=0:=by
 refine ob19 (zfw up 0) ?_;intro b1 J b3
 rcases Nat.eq_zero_or_pos (SetTable.below xs 0) with g |g
 ·exact g
 ·have:=b1 0 _ g (Array.getElem?_eq_getElem (by lia));lia
theorem zlG (n:Nat):(Array.range n).toList.Pairwise (· < ·):=by
 rw [Array.toList_range];exact List.pairwise_lt_range
theorem zkq (up:xs.toList.Pairwise (· < ·)) {j:Nat} (h:xs[SetTable.below xs j]?≠some j):(SetTable.insertAt xs (SetTable.below xs j) j).toList.Pairwise (· < ·):=by
 refine ob19 (zfw up j) ?_;intro b1 b2 b3;rw [SetTable.toList_insertAt];have split:=List.take_append_drop (SetTable.below xs j) xs.toList;have pw:=up;rw [←split,List.pairwise_append] at pw;have lo:∀a∈xs.toList.take (SetTable.below xs j),a<j:=fun a ha=>by
  refine lift fun g9 k9=>?_;obtain ⟨i,hi,e⟩:=List.mem_take_iff_getElem.mp ha
  apply k9
  clear k9 g9;exact b1 i a (by lia) (by rw [←Array.getElem?_toList,qas (by lia),e])
 have hi:∀a∈xs.toList.drop (SetTable.below xs j),j<a:=fun a ha=>by
  refine lift fun g9 k9=>?_;obtain ⟨i,hi,e⟩:=List.mem_drop_iff_getElem.mp ha
  apply k9
  clear k9 g9;have ea:xs[SetTable.below xs j+i]?=some a:=by rw [←Array.getElem?_toList,qas (by lia),e]
  have g:=b2 _ a (by lia) ea
  rcases Nat.lt_or_eq_of_le g with g |g
  ·exact g
  ·subst g
   exfalso
   rcases Nat.eq_zero_or_pos i with z |z
   ·subst z;exact h ea
   ·have hb:SetTable.below xs j<xs.size:=by rw [←Array.length_toList];lia
    have e0:=Array.getElem?_eq_getElem (xs:=xs) hb;have g0:=b2 _ _ (qal _) e0;rw [←Array.getElem?_toList] at e0 ea;refine ob14 (List.getElem?_eq_some_iff.mp e0) ?_;intro x1 y1;refine ob14 (List.getElem?_eq_some_iff.mp ea) ?_;intro x2 y2;have:=List.pairwise_iff_getElem.mp up _ _ x1 x2 (by lia)
    rw [y1,y2] at this
    lia
 rw [List.pairwise_append];refine ⟨pw.1,List.pairwise_cons.mpr ⟨hi,pw.2.1⟩,fun a ha b hb=>?_⟩
 rcases qad.mp hb with rfl |hb
 ·exact lo a ha
 ·exact Nat.lt_trans (lo a ha) (hi b hb)
variable {t:SetTable}
theorem ziV {h:Int}:∀(f:Nat) (p:SetTable.Probe),(∀d,p.dummy=some d->t.place[SetTable.below t.place d]?≠some d)->∀j dm,SetTable.probe.go t (fun J=>h+1) h f p=some (.empty j dm)->t.place[SetTable.below t.place (dm.getD j)]?≠some (dm.getD j):=by
 intro f
 induction f with
 |zero=>intro p J j dm e;cases e
 |succ f ih=>
  intro p hp j dm e;have adv:∀q:SetTable.Probe,(t.advance q).dummy=q.dummy:=fun q=>by unfold SetTable.advance;split<;>rfl
  replace e:(match t.slot p.j with |.empty=>some (SetTable.Met.empty p.j p.dummy) |.dummy=>SetTable.probe.go t (fun J=>h+1) h f (t.advance { p with dummy:=some p.j }) |.live i=>if (h+1==h)=true then some (.candidate p.j i (t.advance p)) else SetTable.probe.go t (fun J=>h+1) h f (t.advance p))=some (.empty j dm):=e
  have sl:t.slot p.j=if t.place[SetTable.below t.place p.j]?==some p.j then .live (SetTable.below t.place p.j) else if SetTable.has t.dummies p.j then .dummy else .empty:=rfl
  by_cases c1:(t.place[SetTable.below t.place p.j]?==some p.j)=true
  ·rw [sl,if_pos c1] at e;dsimp only at e;rw [if_neg (by rw [beq_iff_eq];lia)] at e
   exact ih _ (by rw [adv];exact hp) j dm e
  ·have c1':t.place[SetTable.below t.place p.j]?≠some p.j:=by simpa using c1
   rw [sl,if_neg c1] at e
   by_cases c2:SetTable.has t.dummies p.j=true
   ·rw [if_pos c2] at e;dsimp only at e;exact ih _ (by rw [adv];intro d hd;cases hd;exact c1') j dm e
   ·rw [if_neg c2] at e;cases e;cases hd:p.dummy with
    |none=>exact c1'
    |some d=>exact hp d hd
set_option tactic.hygienic true in
theorem znP {h:Int} {slot:Nat} {b:Bool} (up:t.place.toList.Pairwise (· < ·)) (e:t.freeSlot h=some (slot,b)):(t.put slot).1.place.toList.Pairwise (· < ·):=by
 unfold SetTable.freeSlot SetTable.probe at e
 split at e
 ·rename_i j dm hp;cases e;exact zkq up (ziV _ _ (by intro d hd;cases hd) j dm hp)
 ·cases e
theorem stand_up {n:Nat}:(t.standIn n).place.toList.Pairwise (· < ·):=zlG n
theorem zo2 {es:Array (Int×Value)} {h:Int} {x:Value} (up:t.place.toList.Pairwise (· < ·)):(layNew t es h x).2.1.place.toList.Pairwise (· < ·)/\(layNew t es h x).2.1.led=t.led:=by
 unfold layNew;cases e:t.freeSlot h with
 |none=>exact ⟨stand_up,rfl⟩
 |some q=>
  obtain ⟨slot,b⟩:=q;dsimp only [SetTable.orStandIn];have:=znP up e
  split
  ·exact ⟨this,rfl⟩
  ·exact ⟨stand_up,rfl⟩
theorem zlF {t:SetTable} {es:Array (Int×Value)} {m:Nat}:(relayAll t es m).2.1.place.toList.Pairwise (· < ·)/\(relayAll t es m).2.1.led=t.led:=by
 unfold relayAll;cases e:t.relaid (es.map (·.1)) m with
 |none=>exact ⟨stand_up,rfl⟩
 |some q=>
  obtain ⟨t',order⟩:=q;dsimp only
  split
  ·unfold SetTable.relaid SetTable.laid at e;simp only [Option.bind_eq_bind,Option.bind_eq_some_iff,Option.pure_def,Option.some.injEq,Prod.mk.injEq] at e;refine ob6 e ?_;clear e;intro owner J ee84;subst ee84;intro ee85;subst ee85;refine ⟨?_,rfl⟩;simp only;rw [List.map_filterMap,List.pairwise_filterMap];refine List.pairwise_lt_range.imp ?_;intro a b hab u hu v hv;simp only [Option.map_map,Option.map_eq_some_iff,Function.comp_apply] at hu hv;refine ob1 hu ?_;clear hu;intro J J ee86;subst ee86;refine ob1 hv ?_;clear hv;intro J J ee87;subst ee87;exact hab
  ·exact ⟨stand_up,rfl⟩
section
variable {prog:Program} {w:World} {A:Around} {E:Value->Shared->Prop} {s:Shared}
def SetR (prog:Program) (w:World) (led:Bool) (h:Heap) (a:Addr) (l:List Int):Prop:=
 ∃es ep t,h.get? a=some { cls:=.type "set",dict:=none,data:=.set es ep t,slots := #[] }/\ElemsOf (intKind prog w) es.toList/\(∃ns,IntsAre (es.toList.map (·.2)) ns/\ns.Perm l)/\t.fits es.size=true/\t.place.toList.Pairwise (· < ·)/\t.led=led
variable {ns:List Int}
theorem zda {vs vs':List Value} (p:vs'.Perm vs) (h:IntsAre vs ns):∃ns',IntsAre vs' ns'/\ns'.Perm ns:=by
 induction p generalizing ns with
 |nil=>exact ⟨ns,h,.refl _⟩
 |cons x p ih=>
  cases h with
  |cons n t h'=>obtain ⟨m,m1,m2⟩:=ih h';exact ⟨n::m,.cons n t m1,m2.cons n⟩
 |swap x y l=>
  cases h with
  |cons n t h'=>cases h' with
   |cons n' t' h''=>exact ⟨_,.cons _ _ (.cons _ _ h''),.swap _ _ _⟩
 |trans p q ih1 ih2=>
  refine ob1 (ih2 h) ?_;intro m m1 m2;refine ob1 (ih1 m1) ?_;intro m' m1' m2';exact ⟨m',m1',m2'.trans m2⟩
variable {l:List Int}
theorem SetR.len {led:Bool} {h:Heap} {a:Addr} {es:Array (Int×Value)} (h1:IntsAre (es.toList.map (·.2)) ns) (h2:ns.Perm l):es.size=l.length:=by
 have:=h1.length;rw [qac,Array.length_toList] at this;rw [this,h2.length_eq]
theorem zl4 {vs:List Value} (h:IntsAre vs ns) {n:Int} {v:Value} (hv:v∈vs) (hn:Value.isInt n v=true):n∈ns:=by
 induction h with
 |nil=>cases hv
 |cons m t r ih=>
  rcases qad.mp hv with rfl |hv
  ·refine ob14 (Value.isInt_shape hn) ?_;intro t' e
   injection e with e1;subst e1;exact qaj ..
  ·exact qag _ (ih hv)
theorem zfV {led:Bool} {a:Addr} {es es':Array (Int×Value)} {ep:Nat} {t t':SetTable} (ho:s.heap.get? a=some { cls:=.type "set",dict:=none,data:=.set es ep t,slots := #[] })
  (hel:ElemsOf (intKind prog w) es'.toList) (hi:∃ns,IntsAre (es'.toList.map (·.2)) ns/\ns.Perm l) (hf:t'.fits es'.size=true) (up:t'.place.toList.Pairwise (· < ·)) (hl:t'.led=led) (hz:es'.size<scanBound) {Q:Unit->Shared->Prop}
  (h:∀h',Heap.SameBut a s.heap h'->h'.get? a=some { cls:=.type "set",dict:=none,data:=.set es' (ep+1) t',slots := #[] }->SetR prog w led h' a l->Q () { s with heap:=h' }):wpAny (model prog w) A (storeSet a es' t') Q E s:=by
 refine wpAny_storeSet_of ho rfl ?_ (fits_of_scanBound hz);have hg:(s.heap.update a (Obj.putSet es' t')).get? a=some { cls:=.type "set",dict:=none,data:=.set es' (ep+1) t',slots := #[] }:=Heap.get?_update_self (Obj.putSet es' t') ho rfl;exact h _ (Heap.SameBut.update s.heap a _) hg ⟨es',ep+1,t',hg,hel,hi,hf,up,hl⟩
theorem znl {led:Bool} {a:Addr} {n:Int} {tk:Tok} {Q:Bool->Shared->Prop} (hS:SetR prog w led s.heap a l) (hn:n∉l) (hb:l.length+1<scanBound)
  (h:∀h',Heap.SameBut a s.heap h'->SetR prog w led h' a (l++[n])->Q true { s with heap:=h' }):wpAny (model prog w) A (setAddHashed a (.int n tk) ((intKind prog w).hash n)) Q E s:=by
 refine ob29 hS ?_;clear hS;intro es ep t ho hel ns hi hp hf up hl;have hsz:=SetR.len (led:=led) (h:=s.heap) (a:=a) hi hp;have hk:(intKind prog w).is n (.int n tk)=true:=zaZ n tk;unfold setAddHashed setAddHashedIn;refine wpAny_holding (qaa (wpAny_setState_of ho rfl hf ?_));dsimp only;rw [byScan_of (knd:=intKind prog w) rfl (by lia) hel]
 simp only [↓reduceIte];unfold setAddByScan;refine qaa ?_;refine qaa (wpAny_rule ?_);refine qaa (wpAny_setScan_of hk ho rfl hf hel ?_);have hno:List.findIdx? (fun e=>(intKind prog w).is n e.2) es.toList=none:=List.findIdx?_eq_none_iff.mpr fun e he=>by
  cases g:(intKind prog w).is n e.2 with
  |false=>rfl
  |true=>exact absurd (hp.mem_iff.mp (zl4 hi (List.mem_map_of_mem he) g)) hn
 rw [hno];dsimp only;have hperm:=layNew_perm t es ((intKind prog w).hash n) (.int n tk);have hfits:=layNew_fits t es ((intKind prog w).hash n) (.int n tk);have hup:=zo2 (es:=es) (h:=(intKind prog w).hash n) (x:=.int n tk) up;generalize layNew t es ((intKind prog w).hash n) (.int n tk)=L at hperm hfits hup ⊢;refine lift fun g9 k9=>?_;obtain ⟨es1,t1,wasDummy,gave⟩:=L
 apply k9
 clear k9 g9;dsimp only at hperm hfits hup ⊢;rw [Array.toList_push] at hperm;have hel1:ElemsOf (intKind prog w) es1.toList:=(hel.push hk rfl).perm hperm;have hi1:∃ns,IntsAre (es1.toList.map (·.2)) ns/\ns.Perm (l++[n]):=by
  have p2:=hperm.map (fun e:Int×Value=>e.2);rw [List.map_append] at p2;refine ob1 (zda p2 (hi.append (.cons n tk .nil))) ?_;intro m m1 m2;exact ⟨m,m1,m2.trans (hp.append_right _)⟩
 have hz1:es1.size<scanBound:=by
  have:=hperm.length_eq;rw [Array.length_toList,qat,Array.length_toList] at this;simp only [List.length_singleton] at this
  lia
 have hgw:∀(b:Bool) {ag:Shared} {Q':Unit->Shared->Prop},Q' () ag->wpAny (model prog w) A (match b with |true=>rule "set.scan.the-table-gave-way" |false=>pure ()) Q' E ag:=
  fun b ag Q' hq=>by cases b<;>first |exact qab hq |exact wpAny_rule hq
 refine qaa (hgw _ ?_)
 split
 all_goals
  refine qaa (qab ?_);simp only [↓reduceIte];refine qaa (zfV ho hel1 hi1 hfits hup.1 (hup.2.trans hl) hz1 fun h1 sb1 hg1 hS1=>?_)
  split
  ·have hp2:=relayAll_perm t1 es1 (SetTable.grown es1.size);have hf2:=relayAll_fits t1 es1 (SetTable.grown es1.size);have hu2:=zlF (t:=t1) (es:=es1) (m:=SetTable.grown es1.size);generalize relayAll t1 es1 (SetTable.grown es1.size)=Rl at hp2 hf2 hu2 ⊢;refine lift fun g9 k9=>?_;obtain ⟨es2,t2,gave2⟩:=Rl
   apply k9
   clear k9 g9;dsimp only at hp2 hf2 hu2 ⊢;refine qaa (hgw _ ?_);have hi2:∃ns,IntsAre (es2.toList.map (·.2)) ns/\ns.Perm (l++[n]):=by
    refine ob1 hi1 ?_;clear hi1;intro ns1 j1 j2;refine ob1 (zda (hp2.map (fun e:Int×Value=>e.2)) j1) ?_;intro m m1 m2;exact ⟨m,m1,m2.trans j2⟩
   have hz2:es2.size<scanBound:=by
    have:=hp2.length_eq;rw [Array.length_toList,Array.length_toList] at this
    lia
   refine qaa (zfV (s:={ s with heap:=h1 }) hg1 (hel1.perm hp2) hi2 hf2 hu2.1 ((hu2.2.trans hup.2).trans hl) hz2 fun h2 sb2 J hS2=>qab (qab (h h2 (sb1.trans sb2) hS2)))
  ·exact qab (qab (h h1 sb1 hS1))
theorem zly {led:Bool} {l S it:Addr} {R:Result->Shared->Prop} (hh:A.handled=none) (hlS:l≠S) (hli:l≠it) (hSi:S≠it) (hsz:ns.length<=1000) (nd:ns.Nodup) :
  ∀(k i:Nat) (s:Shared) (xs:List Value),ns.length-i=k->i<=ns.length->s.heap.IsListIter it l i->s.heap.IsList l xs.toArray->IntsAre xs ns->SetR prog w led s.heap S (ns.take i) ->
   (∀(h':Heap) (tk:Nat),SetR prog w led h' S ns->(∀b o,b≠S->b≠it->s.heap.get? b=some o->h'.get? b=some o)->s.heap.objs.size<=h'.objs.size->R (.ok (.ret .none)) { s with heap:=h',toks:=tk }) ->
   codeAny (model prog w) A (.builtin "set.update.loop" ⟨[.ref S,.ref it],[]⟩) R s:=by
 have keepS:∀{h h':Heap} {m:List Int},SetR prog w led h S m->(∀o,h.get? S=some o->h'.get? S=some o)->SetR prog w led h' S m:=fun ⟨es,ep,t,ho,r⟩ e=>⟨es,ep,t,e _ ho,r⟩;intro k
 induction k with
 |zero=>
  intro i s xs hk hi hit hl hI hS hR;have hin:i=ns.length:=by lia
  have hxl:=hI.length;refine codeAny_builtin PyProof.Rows.F.entry_set_update_loop ?_;rw [Around.under_plainId PyProof.Rows.F.plain_set_update_loop _];show wpAny _ A.in1 (pyNext (.ref it) >>= _) _ _ s;refine qaa (zav (wpAny_pyNext_list_end hh hit hl (by simp;lia) fun h' hx hsz'=>?_))
  refine qab ?_;rw [hin,List.take_length] at hS;exact hR h' s.toks (keepS hS fun o e=>hx S o hSi e) (fun b o J hb' e=>hx b o hb' e) hsz'
 |succ k ih=>
  intro i s xs hk hi hit hl hI hS hR;have hlt:i<ns.length:=by lia
  have hxl:=hI.length;have hx:xs[i]?=some xs[i]:=qas (by lia)
  refine ob14 (hI.int_at i _ hx) ?_;intro tk et;rw [et] at hx;rw [List.getD_eq_getElem?_getD,qas hlt,Option.getD_some] at hx;refine codeAny_builtin PyProof.Rows.F.entry_set_update_loop ?_;rw [Around.under_plainId PyProof.Rows.F.plain_set_update_loop _];show wpAny _ A.in1 (pyNext (.ref it) >>= _) _ _ s;refine qaa (zav (wpAny_pyNext_list_item hit hl (by simpa using hx) fun h' hit' hs' hsz'=>?_))
  have hS1:=keepS hS fun o e=>(hs'.2 S hSi).trans e;show wpAny _ A.in1 (holding [Value.int ns[i] tk] (setAdd S (.int ns[i] tk)) >>= _) _ _ _;refine qaa (wpAny_holding ?_);unfold setAdd;refine wpAny_holding ?_;refine qaa ((intKind prog w).pyHash (k:=ns[i]) (zaZ ns[i] tk) ?_);have hnot:ns[i]∉ns.take i:=fun m=>by
   refine lift fun g9 k9=>?_;obtain ⟨j,hj,e⟩:=List.mem_take_iff_getElem.mp m
   apply k9
   clear k9 g9;exact (List.pairwise_iff_getElem.mp nd j i (by lia) hlt (by lia)) e
  have hb:(ns.take i).length+1<scanBound:=by rw [List.length_take];unfold scanBound;lia
  refine znl (s:={ s with heap:=h',toks:=s.toks+1 }) hS1 hnot hb fun h2 sb2 hS2=>?_;rw [←List.take_succ_eq_append_getElem hlt] at hS2;refine qab ⟨plainId_quiet PyProof.Rows.F.plain_set_update_loop _,?_⟩;have hit2:h2.IsListIter it l (i+1):=by
   refine ob1 hit' ?_;clear hit';intro o ho r;exact ⟨o,(sb2.2 it hSi.symm).trans ho,r⟩
  refine ih (i+1) { s with heap:=h2,toks:=s.toks+1 } xs (by lia) hlt hit2 (zge hl ((sb2.2 l hlS).trans (hs'.2 l hli))) hI hS2 ?_
  intro h3 tk3 g1 g2 g3;refine hR h3 tk3 g1 (fun b o hb hb' e=>g2 b o hb hb' ((sb2.2 b hb).trans ((hs'.2 b hb').trans e))) (qak (qak hsz' (Nat.le_of_eq sb2.1.symm)) g3)
noncomputable def zcf (w:World):Bool := !w.params.followText "set-order"
theorem znk (a:Value) {Q₁:Value->Shared->Prop}
  (h:Q₁ (.ref s.heap.objs.size) { s with heap:=s.heap.push { cls:=.type "set",dict:=none,data:=.set #[] 0 (.fresh 0 0 (zcf w)) } }) :
  codeAny (model prog w) A (.call (.builtin "set.__new__") ⟨[.type "set",a],[]⟩) (wants Q₁ E) s:=by
 refine codeAny_of_tree ?_;show wpAny _ A.in1 (do checkBuiltinCall "set.__new__" ⟨[.type "set",a],[]⟩;again (.builtin "set.__new__" ⟨[.type "set",a],[]⟩)) _ _ s
 refine qaa (wpAny_of_eq (PySem.F.newCall_set_1 a) (qab ⟨plainId_quiet PySem.F.plain_set_new _,codeAny_builtin PySem.F.entry_set_new ?_⟩));rw [Around.under_plainId PySem.F.plain_set_new _];unfold Builtin.«set.__new__» Builtin.Frozenset.newClass;have hsub:=sub_set_self;refine lift fun g9 k9=>?_;obtain ⟨hp,g,d,tk,os⟩:=s
 apply k9
 clear k9 g9;dsimp only
 wp_walk
 refine wpAny_askSetting (qab ?_);dsimp only;simp only [newObj];refine qaa (wpAny_alloc (qab ?_));exact qab h
theorem zlB {l:Addr} {xs:List Value} {m:Nat} {Q:Value->Shared->Prop} (hh:A.handled=none) (hL:s.heap.get? l=some (seqObj "list" xs.toArray m)) (hI:IntsAre xs ns) (hsz:ns.length<=1000) (nd:ns.Nodup)
  (h:∀(h':Heap) (tk:Nat),SetR prog w (zcf w) h' s.heap.objs.size ns->(∀b o,s.heap.get? b=some o->h'.get? b=some o)->Q (.ref s.heap.objs.size) { s with heap:=h',toks:=tk }) :
  wpAny (model prog w) A (call (.type "set") [.ref l]) Q E s:=by
 refine ob20 PySem.F.called_set.mro ?_;intro c tl hmro;have hmade:=PySem.F.called_set.made;have hsub:=PySem.F.called_set.sub;refine wpAny_call (codeAny_of_tree ?_);show wpAny _ _ (callAny (.type "set") _) _ _ _;refine qab ⟨Code.quiet_builtin _ (by decide +kernel),codeAny_builtin PySem.F.entry_type_call ?_⟩
 rw [Around.under_plain (weight_type_call_type "set" [.ref l] []) rfl];have h1:=PySem.F.called_set.notType;have h2:=PySem.F.called_set.canCreate;have hct:=PySem.F.typeCall_set_1 (.ref l)
 repeat (any_goals (first |assumption |wp_step))
 refine codeAny_mono (znk (.ref l) (E:=E) (Q₁:=fun obj ag=>obj=.ref s.heap.objs.size/\ag={ s with heap:=s.heap.push { cls:=.type "set",dict:=none,data:=.set #[] 0 (.fresh 0 0 (zcf w)) } }) ⟨rfl,rfl⟩) fun r ag hr=>?_;cases r with
 |error e=>exact hr
 |ok fl=>
  cases fl with
  |ret obj=>
   refine ob16 hr ?_;clear hr;intro ee88;subst ee88;intro ee89;subst ee89;have hS:(s.heap.push { cls:=.type "set",dict:=none,data:=.set #[] 0 (.fresh 0 0 (zcf w)) }).get? s.heap.objs.size=some { cls:=.type "set",dict:=none,data:=.set #[] 0 (.fresh 0 0 (zcf w)),slots := #[] }:=qax _ rfl;have hT:Shared.TypeIs { s with heap:=s.heap.push { cls:=.type "set",dict:=none,data:=.set #[] 0 (.fresh 0 0 (zcf w)) } } (.ref s.heap.objs.size) "set" := ⟨_,hS,rfl⟩;have hli:=PySem.F.called_set.init.lookup;have hbi:=PySem.F.called_set.init.bind (.ref s.heap.objs.size)
   repeat (any_goals (first |assumption |wp_step))
   refine codeAny_mono (codeAny_call_builtin (R:=wants (fun r ai=>r=.none/\∃h' tk,ai={ s with heap:=h',toks:=tk }/\SetR prog w (zcf w) h' s.heap.objs.size ns/\∀b o,s.heap.get? b=some o->h'.get? b=some o) E) PySem.F.called_set.init.plain PySem.F.entry_set_init (check_set_init_1 hT ?_)) fun r₂ ai bf=>?_
   ·have hol:(s.heap.push { cls:=.type "set",dict:=none,data:=.set #[] 0 (.fresh 0 0 (zcf w)) }).get? l=some { cls:=.type "list",dict:=none,data:=.seq xs.toArray m,slots := #[] }:=zad _ _ hL;have hsls:=PySem.F.sub_list_set;have hslf:=PySem.F.sub_list_frozenset;have hne:(Value.type "list" == Value.type "dict")=false:=by decide
    unfold Builtin.«set.__init__» noKeywords Builtin.Frozenset.updateFrom;generalize hPI:pyIter=PI
    wp_walk
    subst hPI;refine wpAny_pyIter_list ⟨_,hol,rfl,m,rfl⟩ ?_;refine qaa (wpAny_runValue ?_);have hl0:l<s.heap.objs.size:=Heap.lt_size hL;have hl1:l≠(s.heap.push { cls:=.type "set",dict:=none,data:=.set #[] 0 (.fresh 0 0 (zcf w)) }).objs.size:=by rw [Heap.size_push];exact Nat.ne_of_lt (Nat.lt_succ_of_lt hl0)
    have hs1:s.heap.objs.size≠(s.heap.push { cls:=.type "set",dict:=none,data:=.set #[] 0 (.fresh 0 0 (zcf w)) }).objs.size:=by rw [Heap.size_push];exact Nat.ne_of_lt (Nat.lt_succ_self _)
    have hh2:A.in1.in1.handled=none:=by simp [hh]
    refine zly (led:=zcf w) hh2 (Nat.ne_of_lt hl0) hl1 hs1 hsz nd ns.length 0 _ xs rfl (Nat.zero_le _) ⟨_,qax _ rfl,rfl,rfl⟩ ⟨_,zad _ _ hol,rfl,m,rfl⟩ hI
     ⟨#[],0,.fresh 0 0 (zcf w),zad _ _ hS,fun e he=>by simp at he,⟨[],.nil,.refl _⟩,rfl,.nil,rfl⟩ fun h' tk g1 g2 J=>?_
    refine qab ?_;show wpAny _ _ (ret Value.none) _ _ _;refine qab ⟨rfl,h',tk,rfl,g1,fun b o e=>?_⟩;have hb:=Heap.lt_size e;exact g2 b o (Nat.ne_of_lt hb) (by rw [Heap.size_push];exact Nat.ne_of_lt (Nat.lt_succ_of_lt hb)) (zad _ _ (zad _ _ e))
   ·cases r₂ with
    |error e=>exact bf
    |ok fl₂=>
     cases fl₂ with
     |ret r=>
      refine ob30 bf ?_;clear bf;intro ee90;subst ee90;intro h' tk ee91;subst ee91;intro hS' hk'
      repeat (any_goals (first |assumption |wp_step))
      exact h _ _ hS' hk'
     |_=>exact bf
  |_=>exact hr
end
theorem zfa:entryFor table "set.__iter__" = some Builtin.«frozenset.__iter__» := entryFor_alias (id' := "frozenset.__iter__") (by kernel_rfl) rfl (by decide +kernel) (by kernel_rfl)
theorem ms_slot_next:Slot "set_iterator" "__next__" "set_iterator.__next__" :=
 .of (owner := "set_iterator") (n := "__next__") (by rw [typeLookup_type,builtinLookup_eq_fast];kernel_rfl) (by decide +kernel) (by decide +kernel) (by decide +kernel)
  (by first |exact .inl (by decide +kernel) |exact .inr (by decide +kernel)) (by rw [isSubtype_type];kernel_rfl)
theorem zbu:entryFor table "set_iterator.__next__" = some Builtin.«set_iterator.__next__» := entryFor_of_tree (by kernel_rfl)
theorem zh1:Manifest.owners.lookup (String.ofList ['r','o','t','a','r','e','t','i','_','t','e','s'].reverse)=some Manifest.sig_set_iterator:=by kernel_rfl
theorem zbI (a:Value):argsOk "set_iterator.__next__" ⟨[a],[]⟩:=by
 unfold argsOk;rw [signature?_of (id := "set_iterator.__next__") (n:=['_','_','t','x','e','n','_','_']) (o:=['r','o','t','a','r','e','t','i','_','t','e','s']) (by kernel_rfl) zh1];kernel_rfl
theorem zeK:Slot "set_iterator" "__iter__" "set_iterator.__iter__" :=
 .of (owner := "set_iterator") (n := "__iter__") (by rw [typeLookup_type,builtinLookup_eq_fast];kernel_rfl) (by decide +kernel) (by decide +kernel) (by decide +kernel)
  (by first |exact .inl (by decide +kernel) |exact .inr (by decide +kernel)) (by rw [isSubtype_type];kernel_rfl)
theorem ziZ (a:Value):argsOk "set_iterator.__iter__" ⟨[a],[]⟩:=by
 unfold argsOk;rw [signature?_of (id := "set_iterator.__iter__") (n:=['_','_','r','e','t','i','_','_']) (o:=['r','o','t','a','r','e','t','i','_','t','e','s']) (by kernel_rfl) zh1];kernel_rfl
theorem zg7:entryFor table "set_iterator.__iter__" = some Builtin.«dict_keyiterator.__iter__» := entryFor_alias (id' := "dict_keyiterator.__iter__") (by kernel_rfl) rfl (by decide +kernel) (by kernel_rfl)
section
variable {prog:Program} {w:World} {A:Around} {E:Value->Shared->Prop} {s:Shared} {I S:Addr} {n ep:Nat} {first:Value}
noncomputable def zea (S:Addr) (n ep:Nat) (first:Value) (i:Nat):Obj:={ cls:=.type "set_iterator",dict:=none,data:=.fields #[first,rawInt i,.ref S,rawInt n,rawInt ep],slots := #[] }
noncomputable def zck (es:Array (Int×Value)) (ep:Nat) (t:SetTable):Obj:={ cls:=.type "set",dict:=none,data:=.set es ep t,slots := #[] }
variable {i:Nat}
theorem zkl {Q:Value->Shared->Prop} (ho:s.heap.get? I=some (zea S n ep first i)) (h:Q (.ref I) s):wpAny (model prog w) A (pyIter (.ref I)) Q E s:=by
 have hT:s.TypeIs (.ref I) "set_iterator" := ⟨_,ho,rfl⟩;refine wpAny_pyIter_slot hT zeK (wpAny_call_entry zeK hT zg7 ?_ (ziZ _));show wpAny _ _ (ret (.ref I)) _ _ s;exact qab ⟨_,rfl, "set_iterator",_,hT,ms_slot_next.lookup,h⟩
theorem zko {h:Heap} {v:Value} {j:Nat} (ho:h.get? I=some (zea S n ep first i)) (hj:j<5) :
  (h.update I (Obj.mapFields (·.setIfInBounds j v))).get? I=some { cls:=.type "set_iterator",dict:=none,data:=.fields (#[first,rawInt i,.ref S,rawInt n,rawInt ep].setIfInBounds j v),slots := #[] }:=
 Heap.get?_update_self _ ho rfl
variable {Q:Option Value->Shared->Prop} {k:Nat} {es:Array (Int×Value)} {t:SetTable}
theorem znJ {k':Nat} {v:Value} (ho:s.heap.get? I=some (zea S n ep (rawInt k) i)) (hs:s.heap.get? S=some (zck es ep t)) (hf:t.fits es.size=true) (hn:es.size=n)
  (hx:∀{E':Value->Shared->Prop} {Q':Option (Value×Nat)->Shared->Prop},Q' (some (v,k')) s->wpAny (model prog w) A.in1 (setNext S k i ep) Q' E' s)
  (hQ:∀h',Heap.SameBut I s.heap h'->h'.get? I=some (zea S n ep (rawInt k') (i+1))->Q (some v) { s with heap:=h' }):wpAny (model prog w) A (pyNext (.ref I)) Q E s:=by
 have hT:s.TypeIs (.ref I) "set_iterator" := ⟨_,ho,rfl⟩;unfold pyNext;refine qaa (wpAny_attempt (wpAny_callSpecial?_slot (name:=Str.ofString "__next__") hT ms_slot_next (wpAny_call_entry ms_slot_next hT zbu ?_ (zbI _))));unfold Builtin.«set_iterator.__next__»;refine qaa (qab ?_);refine qaa (wpAny_fieldsOf ho rfl ?_);show wpAny _ _ (do let es ←setEntries S;_) _ _ _
 refine qaa (wpAny_setEntries_of hs rfl hf ?_);rw [if_neg (by rw [hn];simp)]
 show wpAny _ _ (setNext S ((k:Int)).toNat ((i:Int)).toNat ((ep:Int)).toNat >>= _) _ _ _;rw [Int.toNat_natCast,Int.toNat_natCast,Int.toNat_natCast];refine qaa (hx ?_);dsimp only;refine qaa (wpAny_setField ho rfl (by simp) ?_)
 have h1:=zko (v:=rawInt k') (j:=0) ho (by lia)
 refine qaa (wpAny_setField h1 rfl (by simp) ?_)
 have h2:=Heap.get?_update_self (Obj.mapFields (·.setIfInBounds 1 (rawInt ((i:Int)+1)))) h1 rfl;exact qab ⟨_,rfl,qab (hQ _ ((Heap.SameBut.update ..).trans (Heap.SameBut.update ..)) h2)⟩
theorem zo7 (hh:A.handled=none) (ho:s.heap.get? I=some (zea S n ep (rawInt k) i)) (hs:s.heap.get? S=some (zck es ep t)) (hf:t.fits es.size=true) (hn:es.size=n)
  (hx:∀{E':Value->Shared->Prop} {Q':Option (Value×Nat)->Shared->Prop},Q' none s->wpAny (model prog w) A.in1 (setNext S k i ep) Q' E' s)
  (hQ:∀h',Heap.ExtBut I s.heap h'->Q none { s with heap:=h' }):wpAny (model prog w) A (pyNext (.ref I)) Q E s:=by
 have hT:s.TypeIs (.ref I) "set_iterator" := ⟨_,ho,rfl⟩;unfold pyNext;refine qaa (wpAny_attempt (wpAny_callSpecial?_slot (name:=Str.ofString "__next__") hT ms_slot_next (wpAny_call_entry ms_slot_next hT zbu ?_ (zbI _))));unfold Builtin.«set_iterator.__next__»;refine qaa (qab ?_);refine qaa (wpAny_fieldsOf ho rfl ?_);show wpAny _ _ (do let es ←setEntries S;_) _ _ _
 refine qaa (wpAny_setEntries_of hs rfl hf ?_);rw [if_neg (by rw [hn];simp)]
 show wpAny _ _ (setNext S ((k:Int)).toNat ((i:Int)).toNat ((ep:Int)).toNat >>= _) _ _ _;rw [Int.toNat_natCast,Int.toNat_natCast,Int.toNat_natCast];refine qaa (hx ?_);dsimp only;refine qaa (wpAny_setField ho rfl (by simp) ?_)
 refine qaa ?_;simp only [newExc,newTuple];refine qaa (wpAny_newObj_type ?_ (by size_fits))
 refine qaa (m:=firstArgMember _ _) (wpAny_of_eq (a:=Value.none) (by first |rfl |(simp only [firstArgMember];rfl)) ?_)
 refine wpAny_newObj_type ?_ (by size_fits)
 simp only [raiseNew];refine qaa (wpAny_handled ?_);rw [show A.in1.handled=none from hh];refine qaa (qab (wpAny_throw ?_));refine qaa (wpAny_isInstance (T := "StopIteration") (b:=true) ⟨_,qax _ rfl,rfl⟩ isSubtype_stop ?_);exact qab (hQ _ (((Heap.SameBut.update ..).extBut.push _).push _))
theorem zl2 {tp m:Nat} {v:Value} {e:Int×Value} {pl:List Nat} (ho:s.heap.get? I=some (zea S n ep (.ref tp) i)) (hs:s.heap.get? S=some (zck es ep t)) (hf:t.fits es.size=true) (hn:es.size=n)
  (ht:s.heap.get? tp=some (seqObj "tuple" (pl.map fun (j:Nat)=>rawInt j).toArray m)) {j:Nat} (hj:pl[i]?=some j) (he:es[j]?=some e)
  (hQ:∀h',Heap.SameBut I s.heap h'->h'.get? I=some (zea S n ep (.ref tp) (i+1))->Q (some e.2) { s with heap:=h' }):wpAny (model prog w) A (pyNext (.ref I)) Q E s:=by
 have hT:s.TypeIs (.ref I) "set_iterator" := ⟨_,ho,rfl⟩;unfold pyNext;refine qaa (wpAny_attempt (wpAny_callSpecial?_slot (name:=Str.ofString "__next__") hT ms_slot_next (wpAny_call_entry ms_slot_next hT zbu ?_ (zbI _))));unfold Builtin.«set_iterator.__next__»;refine qaa (qab ?_);refine qaa (wpAny_fieldsOf ho rfl ?_);show wpAny _ _ (do let es ←setEntries S;_) _ _ _
 refine qaa (wpAny_setEntries_of hs rfl hf ?_);rw [if_neg (by rw [hn];simp)]
 show wpAny _ _ (seqItems? (.ref tp) >>= _) _ _ _;refine qaa (wpAny_seqItems ht rfl ?_);dsimp only;have hp:(pl.map fun (j:Nat)=>rawInt j).toArray[((i:Int)).toNat]?=some (rawInt j):=by
  rw [Int.toNat_natCast,List.getElem?_toArray,qau,hj];rfl
 rw [hp];show wpAny _ _ (setNextDrawn S ((j:Int)).toNat ((ep:Int)).toNat >>= _) _ _ _;rw [Int.toNat_natCast,Int.toNat_natCast];refine qaa ?_;unfold setNextDrawn;refine qaa (wpAny_setState_of hs rfl hf ?_);dsimp only;rw [if_neg (by simp),he]
 refine qab ?_;refine qaa (wpAny_setField ho rfl (by simp) ?_)
 have h1:=zko (v:=rawInt ((i:Int)+1)) (j:=1) ho (by lia)
 exact qab ⟨_,rfl,qab (hQ _ (Heap.SameBut.update ..) h1)⟩
theorem znK {tp m:Nat} {pl:List Nat} (hh:A.handled=none) (ho:s.heap.get? I=some (zea S n ep (.ref tp) i)) (hs:s.heap.get? S=some (zck es ep t)) (hf:t.fits es.size=true) (hn:es.size=n)
  (ht:s.heap.get? tp=some (seqObj "tuple" (pl.map fun (j:Nat)=>rawInt j).toArray m)) (hj:pl[i]?=none)
  (hQ:∀h',Heap.ExtBut I s.heap h'->Q none { s with heap:=h' }):wpAny (model prog w) A (pyNext (.ref I)) Q E s:=by
 have hT:s.TypeIs (.ref I) "set_iterator" := ⟨_,ho,rfl⟩;unfold pyNext;refine qaa (wpAny_attempt (wpAny_callSpecial?_slot (name:=Str.ofString "__next__") hT ms_slot_next (wpAny_call_entry ms_slot_next hT zbu ?_ (zbI _))));unfold Builtin.«set_iterator.__next__»;refine qaa (qab ?_);refine qaa (wpAny_fieldsOf ho rfl ?_);show wpAny _ _ (do let es ←setEntries S;_) _ _ _
 refine qaa (wpAny_setEntries_of hs rfl hf ?_);rw [if_neg (by rw [hn];simp)]
 show wpAny _ _ (seqItems? (.ref tp) >>= _) _ _ _;refine qaa (wpAny_seqItems ht rfl ?_);dsimp only;have hp:(pl.map fun (j:Nat)=>rawInt j).toArray[((i:Int)).toNat]?=none:=by
  rw [Int.toNat_natCast,List.getElem?_toArray,qau,hj];rfl
 rw [hp];dsimp only;refine qaa (wpAny_setField ho rfl (by simp) ?_)
 have h1:=zko (v:=rawInt 0) (j:=0) ho (by lia)
 refine qaa (wpAny_setField h1 rfl (by simp) ?_)
 refine qaa ?_;simp only [newExc,newTuple];refine qaa (wpAny_newObj_type ?_ (by size_fits))
 refine qaa (m:=firstArgMember _ _) (wpAny_of_eq (a:=Value.none) (by first |rfl |(simp only [firstArgMember];rfl)) ?_)
 refine wpAny_newObj_type ?_ (by size_fits)
 simp only [raiseNew];refine qaa (wpAny_handled ?_);rw [show A.in1.handled=none from hh];refine qaa (qab (wpAny_throw ?_));refine qaa (wpAny_isInstance (T := "StopIteration") (b:=true) ⟨_,qax _ rfl,rfl⟩ isSubtype_stop ?_);exact qab (hQ _ ((((Heap.SameBut.update ..).trans (Heap.SameBut.update ..)).extBut.push _).push _))
theorem zhG {es:Array (Int×Value)} {t:SetTable} {items:List Value} {k:Nat->Nat} (hh:A.handled=none) (hne:S≠I) (hf:t.fits es.size=true) (hn:es.size=items.length)
  (hx:∀{A':Around} {s:Shared} {E':Value->Shared->Prop} {Q':Option (Value×Nat)->Shared->Prop} {i:Nat} {v:Value},items[i]?=some v->s.heap.get? S=some (zck es ep t)->Q' (some (v,k (i+1))) s->wpAny (model prog w) A' (setNext S (k i) i ep) Q' E' s)
  (he:∀{A':Around} {s:Shared} {E':Value->Shared->Prop} {Q':Option (Value×Nat)->Shared->Prop},s.heap.get? S=some (zck es ep t)->Q' none s->wpAny (model prog w) A' (setNext S (k items.length) items.length ep) Q' E' s) :
  Walks prog w A I [I,S] [I] items.length (fun i v=>items[i]?=some v) (fun i h=>h.get? I=some (zea S es.size ep (rawInt (k i)) i)/\h.get? S=some (zck es ep t)) where
 sub:=fun b hb=>by simp at hb;simp [hb]
 frame:=fun J J J st hk=>⟨hk I (by simp) _ st.1,hk S (by simp) _ st.2⟩
 item:=fun i s Q E hi st hQ=>znJ (v:=items[i]) st.1 st.2 hf rfl (hx (qas hi) st.2) fun h' sb hg=>
  hQ _ h' s.toks (qas hi) ⟨hg,(sb.2 S hne).trans st.2⟩ fun b o hb e=>(sb.2 b fun z=>hb (by simp [z])).trans e
 done:=fun s Q E st hQ=>zo7 hh st.1 st.2 hf rfl (he st.2) fun h' eb=>hQ h' s.toks fun b o hb e=>eb b o (fun z=>hb (by simp [z])) e
 self:=fun i s Q E st hQ=>zkl st.1 hQ
theorem zm2 {es:Array (Int×Value)} {t:SetTable} {items:List Value} {pl:List Nat} {tp m:Nat} (hh:A.handled=none) (hne:S≠I) (hnt:tp≠I) (hf:t.fits es.size=true) (hl:items.length=pl.length)
  (hp:∀(i j:Nat),pl[i]?=some j->∃e,es[j]?=some e/\items[i]?=some e.2) :
  Walks prog w A I [I,S,tp] [I] items.length (fun i v=>items[i]?=some v) (fun i h=>h.get? I=some (zea S es.size ep (.ref tp) i)/\h.get? S=some (zck es ep t)/\h.get? tp=some (seqObj "tuple" (pl.map fun (j:Nat)=>rawInt j).toArray m)) where
 sub:=fun b hb=>by simp at hb;simp [hb]
 frame:=fun J J J st hk=>⟨hk I (by simp) _ st.1,hk S (by simp) _ st.2.1,hk tp (by simp) _ st.2.2⟩
 item:=fun i s Q E hi st hQ=>by
  have hj:pl[i]?=some (pl[i]'(hl▸hi)):=qas _;refine ob1 (hp i _ hj) ?_;intro e e1 e2;refine zl2 (v:=e.2) st.1 st.2.1 hf rfl st.2.2 hj e1 fun h' sb hg=>?_;exact hQ _ h' s.toks e2 ⟨hg,(sb.2 S hne).trans st.2.1,(sb.2 tp hnt).trans st.2.2⟩ fun b o hb e=>(sb.2 b fun z=>hb (by simp [z])).trans e
 done:=fun s Q E st hQ=>znK hh st.1 st.2.1 hf rfl st.2.2 (List.getElem?_eq_none (by lia)) fun h' eb=>hQ h' s.toks fun b o hb e=>eb b o (fun z=>hb (by simp [z])) e
 self:=fun i s Q E st hQ=>zkl st.1 hQ
theorem zeU {α:Type} {l:List α} (h:i<l.length):(l[i]::l.eraseIdx i).Perm l:=by
 have e:l.take i++l[i]::l.drop (i+1)=l:=by rw [List.getElem_cons_drop];exact List.take_append_drop i l
 rw [List.eraseIdx_eq_take_drop_succ];have:=(List.perm_middle (a:=l[i]) (l₁:=l.take i) (l₂:=l.drop (i+1))).symm
 rwa [e] at this
theorem znq {α:Type} {f:Nat->Nat}:∀(n k:Nat) (left:List α) (out:Array α),left.length=n->(pickOrder.go f n k left out).toList.Perm (out.toList++left):=by
 intro n
 induction n with
 |zero=>intro k left out h;have:=List.eq_nil_of_length_eq_zero h;subst this;rw [List.append_nil];exact .refl _
 |succ n ih=>
  intro k left out h;show ((match left[f k%left.length]? with |some x=>pickOrder.go f n (k+1) (left.eraseIdx (f k%left.length)) (out.push x) |none=>out):Array α).toList.Perm _
  have hi:f k%left.length<left.length:=Nat.mod_lt _ (by lia)
  rw [qas hi];dsimp only;refine (ih (k+1) _ _ (by rw [List.length_eraseIdx_of_lt hi];lia)).trans ?_
  rw [Array.toList_push,List.append_assoc];exact List.Perm.append_left _ (zeU hi)
theorem zjV {α:Type} {f:Nat->Nat} {xs:Array α}:(pickOrder f xs).toList.Perm xs.toList:=by
 have:=znq (f:=f) xs.size 0 xs.toList #[] (by simp)
 simpa [pickOrder] using this
theorem zkO {M:Model} {src:Source} {n:Nat} {Q:Nat->Shared->Prop} (hn:n≠0) (h:∀i d,i<n->Q i { s with drawn:=d }):wpAny M A (choose src n) Q E s:=fun aK p aW=>by
 unfold choose;rw [Sem.wp_choose];exact ⟨hn,h _ _ (Nat.mod_lt _ (Nat.pos_of_ne_zero hn))⟩
theorem zoa {M:Model}:∀(n:Nat) (xs:List Nat) {s:Shared} {Q:List Nat->Shared->Prop},xs.length=n->(∀ys d,ys.Perm xs->Q ys { s with drawn:=d })->wpAny M A (drawOrder n xs) Q E s:=by
 intro n
 induction n with
 |zero=>intro xs s Q h hQ;have:=List.eq_nil_of_length_eq_zero h;subst this;exact qab (hQ [] s.drawn (.refl _))
 |succ n ih=>
  intro xs s Q h hQ;cases xs with
  |nil=>cases h
  |cons x xs=>
   show wpAny M A (choose .order (x::xs).length >>= _) Q E s;refine qaa (zkO (by simp) fun i d hi=>?_)
   rw [qas hi];dsimp only;refine qaa (ih _ (by rw [List.length_eraseIdx_of_lt hi];lia) fun ys d' hp=>?_)
   exact qab (hQ _ d' ((hp.cons _).trans (zeU hi)))
theorem zf1 {Q:Option (Value×Nat)->Shared->Prop} (hb:w.params.followText "set-order" = true) (hs:s.heap.get? S=some (zck es ep t)) (hf:t.fits es.size=true)
  (h:Q (((pickOrder (w.params.setOrder S ep) es)[i]?).map fun e=>(e.2,k)) s):wpAny (model prog w) A (setNext S k i ep) Q E s:=by
 unfold setNext;refine qaa (wpAny_setState_of hs rfl hf ?_);dsimp only;refine qaa ?_;unfold setsByText;refine qaa (wpAny_askSetting (qab ?_));refine wpAny_ite_split (fun J=>?_) fun c=>absurd hb c;rw [if_neg (by simp)]
 refine qaa ?_;unfold setWalk;refine qaa (wpAny_setState_of hs rfl hf ?_);dsimp only;refine qaa ?_;unfold setsByText;refine qaa (wpAny_askSetting (qab ?_));refine wpAny_ite_split (fun J=>?_) fun c=>absurd hb c;refine qaa (wpAny_askSetting (qab ?_));exact qab h
theorem zf2 {Q:Option (Value×Nat)->Shared->Prop} (hb:w.params.followText "set-order" = false) (hd:(!t.plain&&decide (es.size > 1))=false) (hl:t.led=true) (hs:s.heap.get? S=some (zck es ep t)) (hf:t.fits es.size=true)
  (h:Q (match es[SetTable.below t.place k]?,t.place[SetTable.below t.place k]? with |some (_,x),some j=>some (x,j+1) |_,_=>none) s):wpAny (model prog w) A (setNext S k i ep) Q E s:=by
 unfold setNext;refine qaa (wpAny_setState_of hs rfl hf ?_);dsimp only;refine qaa ?_;unfold setsByText;refine qaa (wpAny_askSetting (qab ?_));refine wpAny_ite_split (fun c=>Bool.noConfusion (hb.symm.trans c)) fun J=>?_;refine wpAny_ite_split (fun c=>Bool.noConfusion (hd.symm.trans c)) fun J=>?_;refine qaa ?_;show wpAny _ _ (if (!t.led && !es.isEmpty)=true then _ else _) _ _ _
 rw [if_neg (by rw [hl];simp)]
 refine qab ?_;exact qab h
theorem zlz {l:List Int} {Q:Value->Shared->Prop} (hS:SetR prog w (zcf w) s.heap S l) (hlen:l.length<=1000)
  (h:∀(h1:Heap) (d1:Drawn) (I:Addr) (items:List Value) (fp:List Addr) (St:Nat->Heap->Prop),(∀b o,s.heap.get? b=some o->h1.get? b=some o)->s.heap.objs.size<=I->(∃ns,IntsAre items ns/\ns.Perm l)->(∀b∈fp,b=S\/s.heap.objs.size<=b) ->
   (∀A':Around,A'.handled=none->Walks prog w A' I fp [I] items.length (fun i v=>items[i]?=some v) St)->St 0 h1->Q (.ref I) { s with heap:=h1,drawn:=d1 }):wpAny (model prog w) A (pyIter (.ref S)) Q E s:=by
 refine ob29 hS ?_;clear hS;intro es ep t ho hel ns hi hp hf up hl;have hT:s.TypeIs (.ref S) "set" := ⟨_,ho,rfl⟩;have hS0:S<s.heap.objs.size:=Heap.lt_size ho;refine wpAny_pyIter_slot hT PySem.F.slot_set_iter (wpAny_call_entry PySem.F.slot_set_iter hT zfa ?_ (PySem.F.args_set_iter_1 _));unfold Builtin.«frozenset.__iter__»;refine qaa ?_;show wpAny _ _ (pure S) _ _ _;refine qab ?_;refine qaa ?_;unfold Builtin.Frozenset.sizeOf;refine qaa (wpAny_setEntries_of ho rfl hf (qab ?_));refine qaa ?_;unfold setDrawn;refine qaa (wpAny_setState_of ho rfl hf ?_);dsimp only;refine qaa ?_;unfold setsByText;refine qaa (wpAny_askSetting (qab ?_));refine qab ?_;have fin:∀{s1:Shared} {first:Value},s1.heap.get? S=some (zck es ep t)->(∀b o,s.heap.get? b=some o->s1.heap.get? b=some o) ->
   Q (.ref s1.heap.objs.size) { s1 with heap:=s1.heap.push (zea S es.size ep first 0) } ->
   wpAny (model prog w) A.in1 (do
    let e ←setEpoch S
    let r ←newFields "set_iterator" [first,rawInt 0,Value.ref S,rawInt es.size,rawInt e]
    ret r) (fun fin s'=>∃v,fin=Fin.done (Flow.ret v)/\∃T' r,s'.TypeIs v T'/\typeLookup (Value.type T') (Str.ofString "__next__")=pure (some r)/\Q v s') E s1:=fun {s1 first} h1 h2 h3=>by
  refine qaa (wpAny_setEpoch_of h1 rfl hf ?_);simp only [newFields];refine qaa (wpAny_newObj_type ?_);exact qab ⟨_,rfl, "set_iterator",_,⟨_,qax _ rfl,rfl⟩,ms_slot_next.lookup,h3⟩
 refine wpAny_ite_split (fun c=>?_) fun c=>?_
 ·refine qaa (zoa _ _ (by simp) fun ys d hy=>?_)
  simp only [newTuple];refine qaa (wpAny_newObj_type ?_ ?_)
  ·refine fin (zad _ _ ho) (fun b o e=>zad _ _ e) ?_;have hlt:∀j∈ys,j<es.size:=fun j hj=>List.mem_range.mp (hy.mem_iff.mp hj);have hyl:ys.length=es.size:=by rw [hy.length_eq,List.length_range]
   have hpm:(ys.map fun j=>(es.getD j (0,.none)).2).Perm (es.toList.map (·.2)):=by
    refine (hy.map _).trans (List.Perm.of_eq ?_);refine List.ext_getElem (by simp) fun i h1 h2=>?_
    simp only [List.getElem_map,List.getElem_range,Array.getElem_toList];have:i<es.size:=by simpa using h1
    simp [Array.getD,this]
   refine ob1 (zda hpm hi) ?_;intro m m1 m2;have hsz:(s.heap.push { cls:=.type "tuple",data:=.seq (ys.map fun (j:Nat)=>rawInt j).toArray }).objs.size=s.heap.objs.size+1:=Heap.size_push ..;refine h _ d _ (ys.map fun j=>(es.getD j (0,.none)).2) [_,S,s.heap.objs.size] _ (fun b o e=>zad _ _ (zad _ _ e)) (by rw [hsz];lia) ⟨m,m1,m2.trans hp⟩ ?_
    (fun A' hA=>zm2 (es:=es) (t:=t) (ep:=ep) (pl:=ys) (tp:=s.heap.objs.size) (m:=0) hA (Nat.ne_of_lt (by rw [hsz];exact Nat.lt_succ_of_lt hS0)) (Nat.ne_of_lt (by rw [hsz];exact Nat.lt_succ_self _)) hf (by simp) fun i j hj=>?_) ⟨qax _ rfl,zad _ _ (zad _ _ ho),zad _ _ (qax _ rfl)⟩
   ·intro b hb;simp only [qad,qam,or_false] at hb
    rcases hb with rfl |rfl |rfl
    ·exact .inr (by rw [hsz];lia)
    ·exact .inl rfl
    ·exact .inr (qal _)
   ·have:=hlt j (qav hj);exact ⟨es[j],Array.getElem?_eq_getElem this,by rw [qau,hj];simp [Array.getD,this]⟩
  ·have e1:=hy.length_eq;have e2:=SetR.len (led:=zcf w) (h:=s.heap) (a:=S) hi hp;rw [List.length_range] at e1;show (ys.map fun (j:Nat)=>rawInt j).toArray.size<=sizeLine;rw [List.size_toArray,qac,e1,e2,sizeLine_eq];lia
 ·refine qaa (qab (fin ho (fun b o e=>e) ?_));have hIS:S≠s.heap.objs.size:=Nat.ne_of_lt hS0;have fp2:∀b∈[s.heap.objs.size,S],b=S\/s.heap.objs.size<=b:=fun b hb=>by
   simp only [qad,qam,or_false] at hb
   rcases hb with rfl |rfl
   ·exact .inr (qal _)
   ·exact .inl rfl
  by_cases hb:w.params.followText "set-order" = true
  ·have hpm:=(zjV (f:=w.params.setOrder S ep) (xs:=es)).map (fun e:Int×Value=>e.2);refine ob1 (zda hpm hi) ?_;intro m m1 m2;have hln:es.size=((pickOrder (w.params.setOrder S ep) es).toList.map fun e:Int×Value=>e.2).length:=by rw [hpm.length_eq];simp
   refine h _ s.drawn _ ((pickOrder (w.params.setOrder S ep) es).toList.map fun e:Int×Value=>e.2) [_,S] _ (fun b o e=>zad _ _ e) (qal _) ⟨m,m1,m2.trans hp⟩ fp2
    (fun A' hA=>zhG (es:=es) (t:=t) (ep:=ep) (k:=fun J=>0) hA hIS hf hln (fun {_ _ _ _ i v} hv hs q=>zf1 hb hs hf ?_) fun {_ _ _ _} hs q=>zf1 hb hs hf ?_) ⟨qax _ rfl,zad _ _ ho⟩
   ·rw [qau,Array.getElem?_toList] at hv;refine ob1 (Option.map_eq_some_iff.mp hv) ?_;intro e e1 e2;rw [e1,Option.map_some,e2];exact q
   ·rw [Array.getElem?_eq_none (by simp)];exact q
  ·have hb':w.params.followText "set-order" = false:=by simpa using hb
   have hd:(!t.plain&&decide (es.size > 1))=false:=by
    cases z:(!t.plain&&decide (es.size > 1)) with
    |false=>rfl
    |true=>exact absurd (show (!w.params.followText "set-order" && (!t.plain&&decide (es.size > 1)))=true by rw [hb',z];rfl) c
   have hled:t.led=true:=by rw [hl];unfold zcf;rw [hb'];rfl
   have hps:t.place.size=es.size:=by simp only [SetTable.fits,qae,beq_iff_eq] at hf;exact hf.1
   have hk:∀i,i<=es.size->SetTable.below t.place (match i with | 0=>0 |i+1=>t.place.getD i 0+1)=i:=fun i hi'=>by
    cases i with
    |zero=>exact zjl up
    |succ i=>
     have:i<t.place.size:=by lia
     exact zjm up (by rw [Array.getElem?_eq_getElem this];simp [Array.getD,this])
   refine h _ s.drawn _ (es.toList.map fun e:Int×Value=>e.2) [_,S] _ (fun b o e=>zad _ _ e) (qal _) ⟨ns,hi,hp⟩ fp2
    (fun A' hA=>zhG (es:=es) (t:=t) (ep:=ep) (k:=fun i=>match i with | 0=>0 |i+1=>t.place.getD i 0+1) hA hIS hf (by simp) (fun {_ _ _ _ i v} hv hs q=>zf2 hb' hd hled hs hf ?_) fun {_ _ _ _} hs q=>zf2 hb' hd hled hs hf ?_) ⟨qax _ rfl,zad _ _ ho⟩
   ·rw [qau,Array.getElem?_toList] at hv;refine ob1 (Option.map_eq_some_iff.mp hv) ?_;intro e e1 e2;have hlt:i<es.size:=by
     rcases Nat.lt_or_ge i es.size with g |g
     ·exact g
     ·rw [Array.getElem?_eq_none g] at e1;cases e1
    rw [hk i (by lia),e1,Array.getElem?_eq_getElem (show i<t.place.size by lia)]
    subst e2;have:i<t.place.size:=by lia
    simpa [Array.getD,this] using q
   ·rw [hk _ (by simp),Array.getElem?_eq_none (by simp)];exact q
end
section
variable {prog:Program} {w:World} {A:Around} {E:Value->Shared->Prop} {s:Shared} {S:Addr}
theorem zlA {Q:Bool->Shared->Prop} (hT:s.TypeIs (.ref S) "set") (h:Q false s):wpAny (model prog w) A (Builtin.List.listLengthHint (.ref S)) Q E s:=by
 unfold Builtin.List.listLengthHint;refine qaa (wpAny_specialOf hT PySem.F.slot_set_len.lookup ?_);generalize hid:("set.__len__" : String)=id0
 wp_delta
 rw [show splitId id0=some ("set", "__len__") from by subst hid;decide +kernel]
 subst hid;refine qaa (wpAny_isInstance (T := "set") (b:=true) hT sub_set_self ?_);refine wpAny_ite_split (fun hab=>absurd hab (by decide)) (fun J=>?_)
 refine wpAny_ite_split (fun J=>?_) (fun hab=>absurd (by decide +kernel) hab)
 refine qaa (wpAny_typeOf hT ?_);exact qab h
theorem zi6 {items:List Value} {acc:Array Value} (h:ItemsOf (fun i v=>items[i]?=some v) acc items.length):acc.toList=items:=by
 refine List.ext_getElem? fun i=>?_
 rcases Nat.lt_or_ge i items.length with g |g
 ·have hi:i<acc.size:=by rw [h.1];exact g
  rw [Array.getElem?_toList,Array.getElem?_eq_getElem hi];exact (h.2 i _ (Array.getElem?_eq_getElem hi)).symm
 ·rw [List.getElem?_eq_none g,List.getElem?_eq_none (by rw [Array.length_toList,h.1];exact g)]
theorem zgX {l:List Int} {R:List Value->Shared->Prop} (hh:A.handled=none) (hS:SetR prog w (zcf w) s.heap S l) (hlen:l.length<=1000)
  (h:∀(h':Heap) (tk:Nat) (d:Drawn) (vs:List Value),(∀b o,s.heap.get? b=some o->h'.get? b=some o)->s.heap.objs.size<=h'.objs.size->(∃ns,IntsAre vs ns/\ns.Perm l)->R vs { s with heap:=h',toks:=tk,drawn:=d }) :
  wpAny (model prog w) A (collect (.ref S)) R E s:=by
 have keepS:∀{h h':Heap},SetR prog w (zcf w) h S l->(∀o,h.get? S=some o->h'.get? S=some o)->SetR prog w (zcf w) h' S l:=fun ⟨es,ep,t,ho,r⟩ e=>⟨es,ep,t,e _ ho,r⟩;have hS0:S<s.heap.objs.size:=by obtain ⟨es,ep,t,ho,_⟩:=hS;exact Heap.lt_size ho
 refine zav ?_;unfold collect;refine qaa (wpAny_runValue (codeAny_builtin entry_proto_collect' ?_));rw [Around.under_plainId PySem.F.plain_proto_collect _];show wpAny _ A.in1 (newList [] >>= fun l=>again (.builtin "list.__iadd__" ⟨[l,.ref S],[]⟩)) _ _ s;refine qaa (wpAny_newObj_type ?_);refine qab ⟨plainId_quiet PySem.F.plain_list_iadd _,codeAny_builtin entry_list_iadd' ?_⟩;rw [Around.under_plainId PySem.F.plain_list_iadd _];have hS1:=keepS (h':=s.heap.push { cls:=.type "list",data:=.seq ([]:List Value).toArray }) hS fun o e=>zad _ _ e;have hL:(s.heap.push { cls:=.type "list",data:=.seq ([]:List Value).toArray }).get? s.heap.objs.size=some { cls:=.type "list",dict:=none,data:=.seq #[] 0,slots := #[] }:=qax _ rfl;show wpAny _ A.in1 (Builtin.List.listExtendWith (.ref s.heap.objs.size) (.ref S) (.ref s.heap.objs.size)) _ _ _;unfold Builtin.List.listExtendWith;have hT:Shared.TypeIs { s with heap:=s.heap.push { cls:=.type "list",data:=.seq ([]:List Value).toArray } } (.ref S) "set" := by
  refine ob27 hS1 ?_;clear hS1;intro es ep t ho J;exact ⟨_,ho,rfl⟩
 refine qaa (wpAny_typeOf (T := "set") hT ?_);have e1:Builtin.List.listSameRef (.ref s.heap.objs.size) (.ref S)=false:=by simp only [Builtin.List.listSameRef,beq_eq_false_iff_ne];exact Nat.ne_of_gt hS0
 have e2:(Value.type "set" == Value.type "list")=false:=by decide
 have e3:(Value.type "set" == Value.type "tuple")=false:=by decide
 simp only [e1,e2,e3,Bool.or_false,Bool.false_eq_true,if_false];refine qaa (zlz (s:={ s with heap:=s.heap.push { cls:=.type "list",data:=.seq ([]:List Value).toArray } }) hS1 hlen fun h1 d1 I items fp St k1 hI hit hfp W st=>?_);have hsz0:(s.heap.push { cls:=.type "list",data:=.seq ([]:List Value).toArray }).objs.size=s.heap.objs.size+1:=Heap.size_push ..;have hLf:s.heap.objs.size∉fp:=fun m=>by
  rcases hfp _ m with e |e
  ·exact absurd e (Nat.ne_of_gt hS0)
  ·have:(s.heap.push { cls:=.type "list",data:=.seq ([]:List Value).toArray }).objs.size<=s.heap.objs.size:=e;rw [hsz0] at this;lia
 have hIL:s.heap.objs.size+1<=I:=by rw [←hsz0];exact hI
 have hil:items.length=l.length:=by obtain ⟨m,m1,m2⟩:=hit;rw [m1.length,m2.length_eq]
 have key:∀(h2:Heap) (aM:Nat) {R':Result->Shared->Prop},St 0 h2->(∀b o,b≠s.heap.objs.size->h1.get? b=some o->h2.get? b=some o)->h2.get? s.heap.objs.size=some { cls:=.type "list",dict:=none,data:=.seq #[] aM,slots := #[] } ->
   (∀h' tk c',(∀b o,s.heap.get? b=some o->h'.get? b=some o)->h'.get? s.heap.objs.size=some { cls:=.type "list",dict:=none,data:=.seq items.toArray c',slots := #[] }->R' (.ok (.ret (.ref s.heap.objs.size))) { s with heap:=h',toks:=tk,drawn:=d1 }) ->
   codeAny (model prog w) A (.builtin "list.extend.loop" ⟨[.ref s.heap.objs.size,.ref I,.ref s.heap.objs.size],[]⟩) R' { s with heap:=h2,drawn:=d1 }:=by
  intro h2 aM R' hst hk hL2 hR;refine codeAny_extend_loopS (W A.in1 hh).toS (by rw [hil,sizeLine_eq];lia) s.heap.objs.size hLf _ items.length 0 { s with heap:=h2,drawn:=d1 } #[] aM rfl (Nat.zero_le _) hst hL2 (ItemsOf.nil _) fun s' acc' c' hm hS' hacc=>?_
  have e:=zi6 hacc;have e':acc'=items.toArray:=by rw [←e]
  rw [Moved.eq_with hm];refine hR s'.heap s'.toks c' (fun b o hb=>?_) (by rw [hS',e'])
  have hlt:=Heap.lt_size hb;refine hm.heap b o ?_ (hk b o (Nat.ne_of_lt hlt) (k1 b o (zad _ _ hb)));simp only [qad,qam,or_false,not_or];exact ⟨Nat.ne_of_lt hlt,Nat.ne_of_lt (Nat.lt_of_lt_of_le hlt (Nat.le_of_succ_le hIL))⟩
 have hT1:Shared.TypeIs { s with heap:=h1,drawn:=d1 } (.ref S) "set" := by
  refine ob27 hS1 ?_;clear hS1;intro es ep t ho J;exact ⟨_,k1 _ _ ho,rfl⟩
 have hL1:=k1 _ _ hL;have last:∀(h':Heap) (tk c':Nat),(∀b o,s.heap.get? b=some o->h'.get? b=some o)->h'.get? s.heap.objs.size=some { cls:=.type "list",dict:=none,data:=.seq items.toArray c',slots := #[] } ->
   wpAny (model prog w) A (do
    let o ←load s.heap.objs.size
    match o.data with
    |.seq xs _=>pure xs.toList
    |_=>unsupported "internal:collect") (fun a s'=>s.heap.objs.size<=s'.heap.objs.size->R a s') (fun e s'=>s.heap.objs.size<=s'.heap.objs.size->E e s') { s with heap:=h',toks:=tk,drawn:=d1 }:=fun h' tk c' g1 g2=>by
  refine qaa (wpAny_load g2 ?_);exact qab fun hz=>h h' tk d1 items g1 hz hit
 refine qaa (wpAny_holding (zlA hT1 ?_));refine wpAny_ite_split (fun J=>?_) fun J=>qab ⟨plainId_quiet PySem.F.plain_extend_loop _,key h1 0 st (fun b o J e=>e) hL1 last⟩;refine qaa (wpAny_rule ?_);refine qaa ?_;show wpAny _ _ (updateSeq s.heap.objs.size (·.push .none) >>= fun J=>updateSeq s.heap.objs.size (·.pop)) _ _ _;refine qaa (wpAny_updateSeq hL1 rfl ?_);have hL2:=Heap.get?_update_self (Obj.mapSeq (·.push Value.none)) hL1 rfl;refine wpAny_updateSeq (hz:=by seq_fits) hL2 rfl ?_
 have hL3:=Heap.get?_update_self (Obj.mapSeq (·.pop)) hL2 rfl;refine qab ⟨plainId_quiet PySem.F.plain_extend_loop _,key _ _ ?_ (fun b o hb e=>?_) hL3 last⟩
 ·refine (W A.in1 hh).frame 0 _ _ st fun b hb o e=>?_;have hbS:b≠s.heap.objs.size:=fun z=>hLf (z▸hb);exact (Heap.get?_update_other _ _ (Ne.symm hbS)).trans ((Heap.get?_update_other _ _ (Ne.symm hbS)).trans e)
 ·exact (Heap.get?_update_other _ _ (Ne.symm hb)).trans ((Heap.get?_update_other _ _ (Ne.symm hb)).trans e)
variable {C:Cx} {aa:Store} {Q:V->Store->Prop}
theorem PostV.drawn {d:Drawn} {v:Value} {s':Shared} (h:PostV C aa { s with drawn:=d } Q v s'):PostV C aa s Q v s':=by
 refine ob2 h ?_;clear h;intro V ac q hv st;exact ⟨V,ac,q,hv,⟨st.h,st.rel,st.dom,st.fresh,st.gens,st.os⟩⟩
theorem zne {u:V} {x:Value} (hh:A.handled=none) (r:Rel C aa s.heap) (hu:VR s.heap u x) (q:znf true u aa Q) :
  wpAny C.M A (call (.type "set") [x]) (fun v ag=>wpAny C.M A (call (.builtin "sorted") [v]) (PostV C aa s Q) E ag) E s:=by
 refine lift fun g9 k9=>?_;refine ob16 q ?_;clear q;intro J q;refine ob2 (zat q) ?_;intro a vs ee92;subst ee92;intro ha q;refine ob24 (zai q) ?_;intro ns hn h64 nd q;cases hu.ref_of;refine ob2 (r.list ha) ?_;intro xs m hL hX J
 apply k9
 clear k9 g9;have hvs:=ints_get' hn;have hI:IntsAre xs ns:=zfh (hvs▸hX);have hnl:ns.length<64:=by have:=hI.length;have:=hX.length;lia
 refine zav (zlB (prog:=C.prog) (w:=C.w) hh hL hI (by lia) nd fun h1 t1 hS k1 hz1=>?_)
 refine Calls.call_function_entry kind_sorted plain_sorted entry_sorted (args_sorted1 _) ?_;unfold Builtin.«sorted»;refine qaa (m:=checkCount "sorted" 1 1 _) (qab ?_);refine qaa (zgX (s:={ s with heap:=h1,toks:=t1 }) hh hS (by lia) fun h2 t2 d2 ys k2 hz2 hy=>?_)
 refine ob1 hy ?_;clear hy;intro ms hI2 hp;have hyl:ys.length<64:=by rw [hI2.length,hp.length_eq];exact hnl
 refine qaa (wpAny_newList ?_ (by rw [sizeLine_eq];lia))
 have hoL:(h2.push (seqObj "list" ys.toArray 0)).get? h2.objs.size=some (seqObj "list" ys.toArray 0):=qax _ rfl;refine qaa (wpAny_holding (wpAny_call_entry slot_list_sort ⟨_,hoL,rfl⟩ entry_list_sort (list_sort_tree hoL hI2 (by lia) fun out ns' a1 a2 a3=>⟨_,rfl,?_⟩) (args_list_sort _)))
 refine qab ⟨_,rfl,PostV.drawn (d:=d2) ?_⟩;have hws:ns'.Pairwise (· < ·):=by
  have hnd:ns'.Nodup:=(a2.trans hp).nodup_iff.mpr nd;refine (List.pairwise_and_iff.mpr ⟨a3,hnd⟩).imp fun ⟨z1,z2⟩=>by lia
 have q:=q ns' hws fun y=>(a2.trans hp).mem_iff;refine ob14 (sortedHeap_at (h:=h2.push (seqObj "list" ys.toArray 0)) (vs:=ys) (out:=out) (qax h2 (o:=seqObj "list" ys.toArray 0) rfl)) ?_;intro c hc;have hk:∀b ob,s.heap.get? b=some ob->h2.get? b=some ob:=fun b ob e=>k2 b ob (k1 b ob e);have hsz:s.heap.objs.size<=h2.objs.size:=qak hz1 hz2;refine zbH (s:={ s with drawn:=d2 }) (h':=sortedHeap (h2.push (seqObj "list" ys.toArray 0)) h2.objs.size ys out) (xs:=out.toList) (n:=c) (t:=t2) r q (fun b ob hb=>?_) ?_ hsz (by simpa using hc) (zfg a1) ?_
 ·have hlt:b<h2.objs.size:=Heap.lt_size (hk b ob hb);rw [sortedHeap_old (Nat.ne_of_lt hlt) (by rw [Heap.size_push];exact Nat.lt_succ_of_lt hlt)]
  exact zad _ _ (hk b ob hb)
 ·unfold sortedHeap;simp only [Heap.size_update,Heap.size_push];lia
 ·have:=(a2.trans hp).length_eq;simp only [qac,zao];lia
end
def zov (K:Frag) (Cl:Addr):Prop:=
 plainGet K Cl ("x" : Str)=true/\findIn K (.ref Cl) "__setattr__" = some (some (.builtin "object.__setattr__"))/\plainOver K Cl=true/\hasDictIn K Cl=true
structure CxOk (C:Cx):Prop where
 inK:C.K.In C.base
 g:C.base.Ns mainGlobals C.mg
 b:C.base.Ns builtinsNs C.mb
 nolimit:C.base.NoLimit
 bn:∀x v,(x,v)∈bNames->C.mg (Str.ofString x)=none/\C.mb (Str.ofString x)=some v
 glob:∀x i,zkx x=some i->∃t,C.mg (Str.ofString x)=some (.int i t)
 clsNe:C.cls "" = none
 clsG:∀c Cl,C.cls c=some Cl->C.mg (Str.ofString c)=some (.ref Cl)
 fnG:∀f a,C.fn "" f=some a->C.mg (Str.ofString f)=some (.ref a)/\∃o fd,C.base.get? a=some o/\o.data=.func fd
 made:∀c fa,C.fn c "__init__" = some fa->c ≠ "" -> ∃Cl,C.cls c=some Cl/\keepIn C.K (.ref Cl)=true/\makesIn C.K Cl=true/\findIn C.K (.ref Cl) "__init__" = some (some (.ref fa))/\typeIn C.K (.ref fa)=some (.type "function")
 meth:∀c name fa Cl,C.fn c name=some fa->c ≠ "" -> C.cls c=some Cl->zov C.K Cl/\findIn C.K (.ref Cl) (Str.ofString name)=some (some (.ref fa))/\isFn C.K (.ref fa)=true/\∃o fd,C.base.get? fa=some o/\o.data=.func fd
 flds:∀c name Cl,C.fld c name=true->C.cls c=some Cl->zov C.K Cl/\findIn C.K (.ref Cl) (Str.ofString name)=some none
noncomputable def clsV (C:Cx) (D:String):Option Value:=if D = "ValueError" then some (.type "ValueError") else (C.cls D).map .ref
structure CxIs (C:Cx):Prop where
 isi:∀{c D:String} {vD:Value} {A:Around} {s:Shared} {a Cl:Addr} {o:Obj} {vs:Array Value} {Q:Value->Shared->Prop} {E:Value->Shared->Prop},c∈excNames->D ∈ "ValueError" :: "NetError" :: excNames->clsV C D=some vD->C.base.StaysIn s.heap->C.cls c=some Cl ->
  s.heap.get? a=some o->o.cls=.ref Cl->o.dict=none->o.data=.fields vs->(∀t,Q (.bool (zdc c D)) { s with toks:=t })->wpAny C.M A (call (.builtin "isinstance") [.ref a,vD]) Q E s
 clsV:∀D vD,Mine.Internal.clsV C D=some vD->C.mg (Str.ofString D)=some vD\/(D = "ValueError" /\ vD=.type "ValueError")
 own:∀c∈excNames,∃Cl B newId initId bm,C.cls c=some Cl/\ExcBaseFacts B newId initId bm/\OwnCls (Str.ofString c) Cl bm newId C.mg C.base
 excm:∀{c D:String} {A:Around} {s:Shared} {a Cl Dl:Addr} {o:Obj} {vs:Array Value} {Q:Bool->Shared->Prop} {E:Value->Shared->Prop},c∈excNames->D∈excNames->C.base.StaysIn s.heap->C.cls c=some Cl->C.cls D=some Dl ->
  s.heap.get? a=some o->o.cls=.ref Cl->o.data=.fields vs->Q (decide (c=D)) s->wpAny C.M A (excMatches (.ref a) (.ref Dl)) Q E s
 dom:∀(D:String),D ∈ "ValueError" :: "NetError" :: excNames->∃vD,Mine.Internal.clsV C D=some vD
section
variable {C:Cx} {A:Around} {E:Value->Shared->Prop} {aa:Store} {s:Shared} {Q:V->Store->Prop}
theorem zeQ (X:CxOk C) (r:Rel C aa s.heap):C.K.In s.heap:=X.inK.keeps r.stays
variable {name:String}
theorem isStr_iff {n:String} {t:Tok}:(Value.str (Str.ofString n) t).isStr (Str.ofString name)=true↔n=name:=by
 show (Str.ofString n==Str.ofString name)=true↔_;rw [beq_iff_eq];exact ⟨ofString_inj,fun e=>by rw [e]⟩
theorem zhf {n:String} {t:Tok} (h:n≠name):(Value.str (Str.ofString n) t).isStr (Str.ofString name)=false:=by
 rw [←Bool.not_eq_true];exact fun e=>h (isStr_iff.mp e)
theorem NR.noRef {h:Heap}:∀{fs:List (String×V)} {es:List DictEntry},NR h fs es->es.any (·.refKey)=false
 | [],[],_=>rfl
 |(_,_)::_,e::_,⟨⟨t,ht⟩,_,c⟩=>by
  rw [List.any_cons,NR.noRef c,Bool.or_false];unfold DictEntry.refKey;rw [ht]
 | [],_::_,f=>f.elim
 |_::_,[],f=>f.elim
theorem NR.find {h:Heap} {name:String}:∀{fs:List (String×V)} {es:List DictEntry},NR h fs es ->
  (∀v,fs.lookup name=some v->∃x,getL (Str.ofString name) es=some (some x)/\VR h v x)/\(fs.lookup name=none->getL (Str.ofString name) es=some none)
 | [],[],_=>⟨fun v e=>(by simp at e),fun J=>rfl⟩
 |(n,u)::fs,e::es,⟨⟨t,ht⟩,b,c⟩=>by
  refine ob16 (NR.find (name:=name) c) ?_;intro h1 h2;have hr:=NR.noRef c;have hre:e.refKey=false:=by unfold DictEntry.refKey;rw [ht]
  by_cases q:n=name
  ·subst q;have hs:e.key.isStr (Str.ofString n)=true:=by rw [ht];exact isStr_iff.mpr rfl
   refine ⟨fun v hv=>?_,fun hv=>?_⟩
   ·rw [List.lookup_cons,beq_self_eq_true] at hv;cases hv;exact ⟨e.val,by unfold getL;rw [List.find?_cons,hs],b⟩
   ·rw [List.lookup_cons,beq_self_eq_true] at hv;cases hv
  ·have hs:e.key.isStr (Str.ofString name)=false:=by rw [ht];exact zhf q
   have hg:getL (Str.ofString name) (e::es)=getL (Str.ofString name) es:=by unfold getL;rw [List.find?_cons,hs,List.any_cons,hre,Bool.false_or]
   have hl:List.lookup name ((n,u)::fs)=List.lookup name fs:=by rw [List.lookup_cons,beq_eq_false_iff_ne.mpr (Ne.symm q)]
   rw [hg,hl];exact ⟨h1,h2⟩
 | [],_::_,f=>f.elim
 |_::_,[],f=>f.elim
theorem NR.put {h:Heap} {name:String} {v:V} {x:Value} {hsh:Int} {t:Tok} (hv:VR h v x):∀{fs:List (String×V)} {es:List DictEntry},NR h fs es->NR h (putF name v fs) (putL (Str.ofString name) hsh (.str (Str.ofString name) t) x es)
 | [],[],_=>⟨⟨t,rfl⟩,hv,trivial⟩
 |(n,u)::fs,e::es,⟨⟨t',ht⟩,b,c⟩=>by
  unfold putF putL
  by_cases q:n=name
  ·subst q;have hs:e.key.isStr (Str.ofString n)=true:=by rw [ht];exact isStr_iff.mpr rfl
   rw [if_pos rfl,if_pos hs];exact ⟨⟨t',ht⟩,hv,c⟩
  ·have hs:¬e.key.isStr (Str.ofString name)=true:=by rw [ht];exact fun z=>q (isStr_iff.mp z)
   rw [if_neg q,if_neg hs];exact ⟨⟨t',ht⟩,b,NR.put hv c⟩
 | [],_::_,f=>f.elim
 |_::_,[],f=>f.elim
theorem NR.length {h:Heap}:∀{fs:List (String×V)} {es:List DictEntry},NR h fs es->fs.length=es.length
 | [],[],_=>rfl
 |(_,_)::_,e::_,⟨_,_,c⟩=>by simp [NR.length c]
 | [],_::_,f=>f.elim
 |_::_,[],f=>f.elim
theorem zd3 (name:String) (v:V):∀fs,(putF name v fs).length<=fs.length+1
 | []=>by simp [putF]
 |(n,u)::r=>by
  unfold putF
  split
  ·simp
  ·have:=zd3 name v r;simp;lia
set_option tactic.hygienic true in
theorem zeF (name:String) (v:V):∀{fs:List (String×V)},(fs.map (·.1)).Nodup->((putF name v fs).map (·.1)).Nodup/\∀y,y∈(putF name v fs).map (·.1)->y=name\/y∈fs.map (·.1)
 | [],_=>by simp [putF]
 |(n,u)::r,hn=>by
  simp only [List.map_cons,qar] at hn;refine ob16 (zeF name v hn.2) ?_;intro h1 h2;unfold putF
  split
  ·rename_i e;simp only [List.map_cons,qar];exact ⟨hn,fun y hy=>by rcases qad.mp hy with rfl |hy<;>simp_all⟩
  ·rename_i e;simp only [List.map_cons,qar,qad];refine ⟨⟨fun hm=>?_,h1⟩,fun y hy=>?_⟩
   ·rcases h2 _ hm with q |q
    ·exact e q
    ·exact hn.1 q
   ·rcases hy with rfl |hy
    ·exact .inr (.inl rfl)
    ·rcases h2 _ hy with q |q
     ·exact .inl q
     ·exact .inr (.inr q)
theorem zhi {a d Cl:Addr} {es:List DictEntry} {n:Nat} {h:Heap} (h1:h.get? a=some (instObj Cl d)) (h2:h.get? d=some (dictOf es n)):InstAt h a (instObj Cl d) Cl (some (dictOf es n)):=⟨h1,rfl,rfl,h2⟩
variable {x:Value}
theorem zkv {v:V} (h:VR s.heap v x):handedIn x=true:=by cases h<;>rfl
theorem zor {F:String->String->Prop} {u:V} {K:V->Prop} {Q':Value->Shared->Prop} {expr:Bool} (X:CxOk C) (r:Rel C aa s.heap) (hu:VR s.heap u x) (hF:∀c,F c name->C.fld c name=true)
  (q:zb9 F u name aa K) (h:∀z w t,K z->VR s.heap z w->Q' w { s with toks:=t }):wpAny C.M A (getAttr x (Str.ofString name) expr) Q' E s:=by
 refine lift fun g9 k9=>?_;obtain ⟨a,c,d,fs,rfl,ha,hd,hf,q⟩:=zcM q;refine ob1 (zai q) ?_;intro v hv q;cases hu.ref_of;refine ob1 (r.tr a _ ha) ?_;intro Cl hc hi;refine ob2 (r.tr d _ hd) ?_;intro es n hdo hn J;refine ob31 (X.flds c name Cl (hF c hf) hc) ?_;intro k1 k2 k3 k4 k5;refine ob1 ((NR.find (name:=name) hn).1 v hv) ?_;intro y hy hvy
 apply k9
 clear k9 g9;exact get_value (K:=C.K) (zeQ X r) (zhi hi hdo) (plainGet_of k1).1 (findObj_own (attr:=none) k4 k5 rfl hy) (zkv hvy) (h v y _ q hvy)
theorem zgj {a d Cl:Addr} {c:String} {fs:List (String×V)} {fa:Addr} {pl:Sem Bool} {Q':Value×List Value->Shared->Prop} (X:CxOk C) (r:Rel C aa s.heap) (ha:aa a=some (.inst c d)) (hd:aa d=some (.ns fs)) (hl:fs.lookup name=none)
  (hfa:C.fn c name=some fa) (hc0:c ≠ "") (h:Q' (.ref fa,[.ref a]) s):wpAny C.M A (getMethod (.ref a) (Str.ofString name) pl) Q' E s:=by
 refine lift fun g9 k9=>?_;refine ob1 (r.tr a _ ha) ?_;intro Cl hc hi;refine ob2 (r.tr d _ hd) ?_;intro es n hdo hn J;refine ob32 (X.meth c name fa Cl hfa hc0 hc) ?_;intro k1 k2 k3 k4 k5 k6 J
 apply k9
 clear k9 g9;exact method_fn (zeQ X r) (zhi hi hdo) (plainGet_of k1).1 (plainGet_of k1).2 k5 (beq_iff_eq.mp k6) (by show (lookIn _ (dictOf es n)).map _=_;rw [lookIn_dict,(NR.find (name:=name) hn).2 hl];rfl) h
theorem ziR {F:String->String->Prop} {u v:V} {y:Value} {K:Store->Prop} (X:CxOk C) (r:Rel C aa s.heap) (hu:VR s.heap u x) (hv:VR s.heap v y) (hF:∀c,F c name->C.fld c name=true)
  (q:zdE F u name v aa K):wpAny C.M A (setAttr x (Str.ofString name) y) (fun J s'=>∃ac,K ac/\Step C No aa s ac s') E s:=by
 refine lift fun g9 k9=>?_;obtain ⟨a,c,d,fs,rfl,ha,hd,⟨hf,hlen⟩,q⟩:=zcM q;cases hu.ref_of;refine ob1 (r.tr a _ ha) ?_;intro Cl hc hi;refine ob2 (r.tr d _ hd) ?_;intro es n hdo hn hnd;refine ob31 (X.flds c name Cl (hF c hf) hc) ?_;intro k1 k2 k3 k4 k5
 apply k9
 clear k9 g9;have hK:=zeQ X r;have I:=zhi hi hdo;refine set_plain hK I k2 (osa_open (s:={ s with toks:=s.toks+1 }) (r:=none) hK I k3 (by unfold takerIn;rw [k5];rfl) fun b=>?_)
 refine ob1 (any_some k4) ?_;intro cd hcc hd';have hsb:Heap.SameBut d s.heap (s.heap.update d (Obj.putName (Str.ofString name) (PyData.keyHash C.w.params (Str.ofString name)) (.str (Str.ofString name) (s.toks+1)) y)):=⟨Heap.size_update ..,fun b hb=>Heap.get?_update_other _ _ (Ne.symm hb)⟩;have D':(s.heap.update d (Obj.putName (Str.ofString name) (PyData.keyHash C.w.params (Str.ofString name)) (.str (Str.ofString name) (s.toks+1)) y)).get? d =
   some (dictOf (putL (Str.ofString name) (PyData.keyHash C.w.params (Str.ofString name)) (.str (Str.ofString name) (s.toks+1)) y es) (putN (Str.ofString name) es n)):=by
  rw [←putName_dict];exact Heap.get?_update_self _ hdo (by rw [putName_dict];rfl)
 have hlen':(putL (Str.ofString name) (PyData.keyHash C.w.params (Str.ofString name)) (.str (Str.ofString name) (s.toks+1)) y es).length<=101:=by
  have h1:=(NR.put (hsh:=PyData.keyHash C.w.params (Str.ofString name)) (t:=s.toks+1) (name:=name) hv hn).length;have h2:=zd3 name v fs
  lia
 have fin:∀t,∃ac,K ac/\Step C No aa s ac { s with heap:=s.heap.update d (Obj.putName (Str.ofString name) (PyData.keyHash C.w.params (Str.ofString name)) (.str (Str.ofString name) (s.toks+1)) y),toks:=t }:=fun t=>
  ⟨_,q,.turn r hd (fun J e=>by cases e) hsb fun k=>⟨_,_,D',(NR.put hv hn).keep k,(zeF name v hnd).1⟩⟩
 refine qaa (qab (qaa (qaa (wpAny_loadPart hi (qaa (Looks.here (s:={ s with toks:=s.toks+1 }) (looks_clsIn hK hcc) ?_))))));rw [hd'];refine qab (a:=some d) (qaa (qab (qaa ?_)));unfold nsSet;refine qaa (qaa (wpAny_askSetting (qab (qaa (wpAny_mkText (qaa (wpAny_loadPart hdo ?_)))))));have cc:(!es.toArray.any (·.key.isStr (Str.ofString name))&&es.toArray.any (·.refKey))=false:=by
  rw [←Array.any_toList,←Array.any_toList];simp only [hn.noRef,Bool.and_false]
 dsimp only;rw [aRefKeyMayBeTheName_at,cc];refine wpAny_updatePart hdo ?_;refine qaa (wpAny_lookBehind D' (pastItsLine_dict (by rw [List.size_toArray,sizeLine_eq];lia)) ?_)
 exact qab (fin _)
end
structure EnvS (S:Sc) (env:Env):Prop extends EnvOk env where
 names:env.scope.names=S.names
 nm:NmOk S.nm S.size
 cells:∀x,(S.names.lookup x=some .cell\/S.names.lookup x=some .free)->(env.cells.lookup x).isSome=true
theorem EnvS.kindOf {S:Sc} {env:Env} (h:EnvS S env) (x:Str):env.kindOf x=S.names.lookup x:=by unfold Env.kindOf;rw [h.names]
structure Dyn (C:Cx) (k:Nat) (md:Bool) (S:Sc) (A:Around) (env:Env) (ad:Loc) (aa:Store) (s:Shared):Prop where
 a:AOk C (k+1) md A aa s.heap
 r:Rel C aa s.heap
 l:LR C aa s.heap env S.nm ad
 len:ad.length=S.size
structure ARun (C:Cx) (k:Nat) (md:Bool) (A:Around) (aa:Store) (h:Heap):Prop where
 frames:FramesOk C A aa h
 handled:md=true->A.handled=none
 depth:A.depth+3*k+1<990
 units:A.units+40*k+10<9000
structure CallsOk (C:Cx) (k:Nat) (md:Bool) (af:Calls):Prop where
 dom:∀c f,af.has c f=true->∃a,C.fn c f=some a
 fld:∀c f,af.fld c f->C.fld c f=true
 run:∀{c f:String} {a:Addr} {vs:List V} {xs:List Value} {aa:Store} {s:Shared} {A:Around} {Q:V->Store->Prop} {X:XP},C.fn c f=some a->ARun C k md A aa s.heap->Rel C aa s.heap->VRs s.heap vs xs->af.run c f vs aa Q X ->
  codeAny C.M A (.call (.ref a) ⟨xs,[]⟩) (fun r s'=>match r with |.ok (.ret v)=>PostV C aa s Q v s' |.ok _=>False |.error e=>PostX C aa s X e s') s
structure Sur (C:Cx) (k:Nat) (md:Bool) (af:Calls) (S:Sc) (env:Env):Prop where
 X:CxOk C
 I:CxIs C
 ca:CallsOk C k md af
 ev:EnvS S env
def EvP (C:Cx) (e:Ex):Prop:=∀ ⦃k:Nat⦄ ⦃md:Bool⦄ ⦃af:Calls⦄ ⦃S:Sc⦄ ⦃x:Expr⦄ ⦃env:Env⦄ ⦃A:Around⦄ ⦃ad:Loc⦄ ⦃aa:Store⦄ ⦃s:Shared⦄ ⦃Q:V->Store->Prop⦄ ⦃X:XP⦄,
 Sur C k md af S env->Dyn C k md S A env ad aa s->zal S e x=true->wpE af md e ad aa Q X->wpAny C.M A (eval x env) (PostV C aa s Q) (PostX C aa s X) s
def zju (C:Cx) (aa:Store) (s:Shared) (Q:V->Store->Prop):Bool->Shared->Prop:=fun b s'=>∃V ac,Q V ac/\Mine.Internal.truthy ac V=some b/\Step C No aa s ac s'
def TrP (C:Cx) (e:Ex):Prop:=∀ ⦃k:Nat⦄ ⦃md:Bool⦄ ⦃af:Calls⦄ ⦃S:Sc⦄ ⦃x:Expr⦄ ⦃env:Env⦄ ⦃A:Around⦄ ⦃ad:Loc⦄ ⦃aa:Store⦄ ⦃s:Shared⦄ ⦃Q:V->Store->Prop⦄ ⦃X:XP⦄,
 Sur C k md af S env->Dyn C k md S A env ad aa s->zal S e x=true->wpE af md e ad aa Q X->(∀V ac,Q V ac->∃b,Mine.Internal.truthy ac V=some b)->wpAny C.M A (isTrue x env (eval x env)) (zju C aa s Q) (PostX C aa s X) s
def zpA (C:Cx) (aa:Store) (s:Shared) (Q:List V->Store->Prop):List Value->Shared->Prop:=fun xs s'=>∃vs ac,Q vs ac/\VRs s'.heap vs xs/\Step C No aa s ac s'
def EvsP (C:Cx) (es:Exs):Prop:=∀ ⦃k:Nat⦄ ⦃md:Bool⦄ ⦃af:Calls⦄ ⦃S:Sc⦄ ⦃xs:List Expr⦄ ⦃env:Env⦄ ⦃A:Around⦄ ⦃ad:Loc⦄ ⦃aa:Store⦄ ⦃s:Shared⦄ ⦃Q:List V->Store->Prop⦄ ⦃X:XP⦄ ⦃pos:Pos⦄,
 Sur C k md af S env->Dyn C k md S A env ad aa s->zaR S es xs=true->wpEs af md es ad aa Q X->wpAny C.M A (spliced (backTo pos (starEach xs env))) (zpA C aa s Q) (PostX C aa s X) s
def EvoP (C:Cx) (o:ExO):Prop:=∀ ⦃k:Nat⦄ ⦃md:Bool⦄ ⦃af:Calls⦄ ⦃S:Sc⦄ ⦃x:Option Expr⦄ ⦃env:Env⦄ ⦃A:Around⦄ ⦃ad:Loc⦄ ⦃aa:Store⦄ ⦃s:Shared⦄ ⦃Q:V->Store->Prop⦄ ⦃X:XP⦄,
 Sur C k md af S env->Dyn C k md S A env ad aa s->zd6 S o x=true->wpO af md o ad aa Q X->wpAny C.M A (evalPart x env) (PostV C aa s Q) (PostX C aa s X) s
section
variable {C:Cx} {k:Nat} {md:Bool} {af:Calls} {S:Sc} {env:Env} {A:Around} {ad:Loc} {aa ae:Store} {s ag:Shared} {X:XP} {Q:V->Store->Prop}
theorem Dyn.step {ac:Store} {s':Shared} (d:Dyn C k md S A env ad aa s) (st:Step C No aa s ac s'):Dyn C k md S A env ad ac s':=⟨d.a.step st,st.rel,d.l.step st,d.len⟩
theorem seqE {t:Sem Value} {Q₁:V->Store->Prop} {K:Value->Shared->Prop} (st:Step C No aa s ae ag) (h:wpAny C.M A t (PostV C ae ag Q₁) (PostX C ae ag X) ag)
  (k:∀v V ah ai,Q₁ V ah->VR ai.heap V v->Step C No ae ag ah ai->Step C No aa s ah ai->K v ai):wpAny C.M A t K (PostX C aa s X) ag:=
 wpAny_mono h (fun v ai ⟨V,ah,q,hv,av⟩=>k v V ah ai q hv av (st.trans av)) fun J J hx=>hx.from st
theorem seqL {t:Sem (List Value)} {Q₁:List V->Store->Prop} {K:List Value->Shared->Prop} (st:Step C No aa s ae ag) (h:wpAny C.M A t (zpA C ae ag Q₁) (PostX C ae ag X) ag)
  (k:∀v V ah ai,Q₁ V ah->VRs ai.heap V v->Step C No ae ag ah ai->Step C No aa s ah ai->K v ai):wpAny C.M A t K (PostX C aa s X) ag:=
 wpAny_mono h (fun v ai ⟨V,ah,q,hv,av⟩=>k v V ah ai q hv av (st.trans av)) fun J J hx=>hx.from st
theorem seqB {t:Sem Bool} {Q₁:V->Store->Prop} {K:Bool->Shared->Prop} (st:Step C No aa s ae ag) (h:wpAny C.M A t (zju C ae ag Q₁) (PostX C ae ag X) ag)
  (k:∀b V ah ai,Q₁ V ah->Mine.Internal.truthy ah V=some b->Step C No ae ag ah ai->Step C No aa s ah ai->K b ai):wpAny C.M A t K (PostX C aa s X) ag:=
 wpAny_mono h (fun v ai ⟨V,ah,q,hv,av⟩=>k v V ah ai q hv av (st.trans av)) fun J J hx=>hx.from st
variable {E:Value->Shared->Prop}
theorem fin {ai:Shared} {t:Sem Value} (st:Step C No aa s ae ag) (h:wpAny C.M A t (PostV C ae ag Q) E ai):wpAny C.M A t (PostV C aa s Q) E ai:=
 wpAny_mono h (fun J J hx=>hx.from st) fun J J hx=>hx
variable {id:Str} {i:Nat}
theorem Sc.var_elim (h:S.var id i=true):∃x,id=Str.ofString x/\S.nm.lookup x=some i/\(S.names.lookup id=some .local\/S.names.lookup id=some .cell\/S.names.lookup id=some .free) /\
  (id==("__debug__" : Str))=false/\(id==("__classdict__" : Str))=false:=by
 unfold Sc.var at h;simp only [qae,Bool.not_eq_true',List.any_eq_true,Bool.or_eq_true,beq_iff_eq,qaq] at h;refine ob33 h ?_;clear h;intro p hp h1 h2 h3 h4 h5;exact ⟨p.1,h1.symm,h2,by rcases h3 with (h3 |h3) |h3;exact .inl h3;exact .inr (.inl h3);exact .inr (.inr h3),h4,h5⟩
theorem Sc.own_elim (h:S.own id i=true):∃x,id=Str.ofString x/\S.nm.lookup x=some i/\(S.names.lookup id=some .local\/S.names.lookup id=some .cell):=by
 unfold Sc.own at h;simp only [qae,List.any_eq_true,Bool.or_eq_true,beq_iff_eq,qaq] at h;refine ob34 h ?_;clear h;intro p hp h1 h2 h3;exact ⟨p.1,h1.symm,h2,h3⟩
theorem Sc.glb_elim {x:String} (h:S.glb id x=true):id=Str.ofString x/\S.names.lookup id=some .globalImplicit/\(id==("__debug__" : Str))=false:=by
 unfold Sc.glb at h;simp only [qae,Bool.not_eq_true',beq_iff_eq,qaq] at h;exact ⟨h.1.1,h.1.2,h.2⟩
theorem g_at (X:CxOk C) (r:Rel C aa s.heap):s.heap.Ns mainGlobals C.mg:=X.g.keeps r.stays
theorem b_at (X:CxOk C) (r:Rel C aa s.heap):s.heap.Ns builtinsNs C.mb:=X.b.keeps r.stays
variable {pos:Pos} {K:Value->Shared->Prop}
theorem zeT {x:String} {v:Value} (U:Sur C k md af S env) (r:Rel C aa s.heap) (h:S.glb id x=true) (hv:C.mg (Str.ofString x)=some v) (q:K v s) :
  wpAny C.M A (eval (.Name id pos) env) K E s:=by
 refine ob19 (Sc.glb_elim h) ?_;intro ee93;subst ee93;intro h1 h2;refine Name_function_global U.ev.kind (by rw [U.ev.kindOf];exact h1) (loadGlobal_global (mg:=C.mg) ?_ hv q) h2
 rw [U.ev.globals];exact g_at U.X r
theorem zcr {x:String} {v:Value} (U:Sur C k md af S env) (r:Rel C aa s.heap) (h:S.glb id x=true) (hv:(x,v)∈bNames) (q:K v s) :
  wpAny C.M A (eval (.Name id pos) env) K E s:=by
 refine ob19 (Sc.glb_elim h) ?_;intro ee94;subst ee94;intro h1 h2;refine ob16 (U.X.bn x v hv) ?_;intro h3 h4;refine Name_function_global U.ev.kind (by rw [U.ev.kindOf];exact h1) (loadGlobal_builtin (mg:=C.mg) (mb:=C.mb) ?_ h3 ?_ h4 q) h2
 ·rw [U.ev.globals];exact g_at U.X r
 ·rw [U.ev.builtins];exact b_at U.X r
theorem zgt (d:Dyn C k md S A env ad aa s):A.units+16<cLine:=
 have:=d.a.units
 Nat.lt_of_lt_of_le (show A.units+16<9016 from Nat.add_lt_add_right (Nat.lt_of_le_of_lt (Nat.le_add_right _ _) this) 16) (by decide)
theorem zj1 {u:V} {x:Value} {b:Bool} (hu:VR s.heap u x) (e:Mine.Internal.truthy aa u=some b) (h:K (.bool (!b)) s):wpAny C.M A (unaryOp .Not x) K E s:=by
 unfold unaryOp;refine wpAny_holding ?_;dsimp only;rw [if_pos (by decide)]
 exact qaa (zdR hu e (qab h))
/- simple expressions -/
theorem znW:EvP C .none:=by
 intro k md af S x env A ad aa s Q X U d hm h;dsimp only [zit] at h;refine cME hm ?_;intro c kk p hm;cases of_decide_eq_true hm
 ·exact wpAny_Constant_none (.now d.r h .none)
theorem zpS:EvP C .tt:=by
 intro k md af S x env A ad aa s Q X U d hm h;dsimp only [E_tt] at h;refine cME hm ?_;intro c kk p hm;cases of_decide_eq_true hm
 ·exact wpAny_Constant_bool (.now d.r h .bool)
theorem zpV:EvP C .ff:=by
 intro k md af S x env A ad aa s Q X U d hm h;dsimp only [E_ff] at h;refine cME hm ?_;intro c kk p hm;cases of_decide_eq_true hm
 ·exact wpAny_Constant_bool (.now d.r h .bool)
theorem zph {i:Int}:EvP C (.int i):=by
 intro k md af S x env A ad aa s Q X U d hm h;dsimp only [zmD] at h;refine cME hm ?_;intro c kk p hm
 ·cases of_decide_eq_true hm;exact wpAny_Constant_int (.tok d.r h .int)
theorem zpe {i:String}:EvP C (.str i):=by
 intro k md af S x env A ad aa s Q X U d hm h;dsimp only [zmB] at h;refine cME hm ?_;intro c kk p hm
 ·cases of_decide_eq_true hm;exact wpAny_Constant_str (.tok d.r h .str)
theorem zpd:EvP C (.var i):=by
 intro k md af S x env A ad aa s Q X U d hm h;dsimp only [zmA] at h;refine nmME hm ?_;intro id p hm
 ·refine ob35 (Sc.var_elim hm) ?_;intro x ee95;subst ee95;intro h1 h2 h3 h4;refine ob1 (zai h) ?_;intro v hv q;refine zka U.ev.toEnvOk d.l h1 hv ?_ h3 h4 fun u hu=>.now d.r q hu;rw [U.ev.kindOf];exact h2
theorem zn3 {g:String}:EvP C (.glob g):=by
 intro k md af S x env A ad aa s Q X U d hm h;dsimp only [ziA] at h;refine nmME hm ?_;intro id p hm
 ·refine ob1 (zai h) ?_;intro i hi q;refine ob14 (U.X.glob g i hi) ?_;intro t ht;exact zeT U d.r hm ht (.now d.r q .int)
variable {a b:Ex}
theorem zpk {op:Operator} (ha:EvP C a) (hb:EvP C b):EvP C (.bin op a b):=by
 intro k md af S x env A ad aa s Q X U d hm h;dsimp only [zmF] at h;refine biME hm ?_;intro l op' r p hm
 ·simp only [qae,qaq] at hm;refine ob18 hm ?_;clear hm;intro ee96;subst ee96;intro h1 h2;refine wpAny_BinOp (seqE (.refl d.r) (ha U d h1 h) fun x u ae ag q hu J st=>seqE st (hb U (d.step st) h2 q) fun y v ah ai q hv av st'=>fin st' ?_);exact zpt st'.rel (av.vr hu) hv q
theorem zpg (ha:EvP C a):EvP C (.neg a):=by
 intro k md af S x env A ad aa s Q X U d hm h;dsimp only [zmC] at h;refine unME hm ?_;intro op l p hm;simp only [qae,qaq] at hm;refine ob16 hm ?_;clear hm;intro ee97;subst ee97;intro hm
 ·refine wpAny_UnaryOp (seqE (.refl d.r) (ha U d hm h) fun x u ae ag q hu J st=>fin st ?_);refine ob1 (zaM q) ?_;intro i ee98;subst ee98;intro q;refine ob14 hu.int_of ?_;intro t ee99;subst ee99;exact neg_int (.tok st.rel q .int)
theorem zpf (ha:EvP C a):EvP C (.not a):=by
 intro k md af S x env A ad aa s Q X U d hm h;dsimp only [zk8] at h;refine unME hm ?_;intro op l p hm;simp only [qae,qaq] at hm;refine ob16 hm ?_;clear hm;intro ee100;subst ee100;intro hm
 ·refine wpAny_UnaryOp (seqE (.refl d.r) (ha U d hm h) fun x u ae ag q hu J st=>fin st ?_);refine ob1 (zai q) ?_;intro b hb q;exact zj1 hu hb (.now st.rel q .bool)
theorem zpj {op:CmpOp} (ha:EvP C a) (hb:EvP C b):EvP C (.cmp op a b):=by
 intro k md af S x env A ad aa s Q X U d hm h;dsimp only [zk9] at h;refine zpp hm ?_;intro l op' r p hm
 ·simp only [qae,qaq] at hm;refine ob18 hm ?_;clear hm;intro ee101;subst ee101;intro h1 h2;refine wpAny_Compare1 (seqE (.refl d.r) (ha U d h1 h) fun x u ae ag q hu J st=>seqE st (hb U (d.step st) h2 q) fun y v ah ai q hv av st'=>fin st' ?_) (zdH h2);refine ob1 (zai q) ?_;intro c hc q;exact zeX U.X.nolimit (zgt d) st'.rel (av.vr hu) hv hc fun t=>.tok st'.rel q .bool
variable {e:Ex} {x:Expr}
theorem zpE (he:EvP C e) (U:Sur C k md af S env) (d:Dyn C k md S A env ad aa s) (hm:zal S e x=true) (h:wpE af md e ad aa Q X) (hq:∀V ac,Q V ac->∃b,Mine.Internal.truthy ac V=some b)
  (hx:isTrue x env (eval x env)=(do let v ←eval x env;standAt x.pos;holding [v] (PySem.truthy v))):wpAny C.M A (isTrue x env (eval x env)) (zju C aa s Q) (PostX C aa s X) s:=by
 refine wpAny_isTrue_value (seqE (.refl d.r) (he U d hm h) fun x u ae ag q hu J st=>?_) hx;refine ob14 (hq _ _ q) ?_;intro b hb;exact zdR hu hb ⟨u,ae,q,hb,st⟩
theorem zoz (ha:TrP C a):TrP C (.not a):=by
 intro k md af S x env A ad aa s Q X U d hm h hq;dsimp only [zk8] at h;refine unME hm ?_;intro op l p hm;simp only [qae,qaq] at hm;refine ob16 hm ?_;clear hm;intro ee102;subst ee102;intro hm
 ·refine wpAny_isTrue_Not (seqB (.refl d.r) (ha U d hm h fun V ac q=>?_) fun b V ae ag q hb J st=>?_)
  ·refine ob1 (zai q) ?_;intro b hb J;exact ⟨b,hb⟩
  ·refine ob1 (zai q) ?_;intro b' hb' q;rw [hb] at hb';cases hb';exact ⟨.bool (!b),ae,q,rfl,st⟩
theorem zoA {op:CmpOp} (ha:EvP C a) (hb:EvP C b):TrP C (.cmp op a b):=by
 intro k md af S x env A ad aa s Q X U d hm h hq;dsimp only [zk9] at h;refine zpp hm ?_;intro l op' r p hm
 ·simp only [qae,qaq] at hm;refine ob18 hm ?_;clear hm;intro ee103;subst ee103;intro h1 h2;refine wpAny_isTrue_Compare1 (seqE (.refl d.r) (ha U d h1 h) fun x u ae ag q hu J st=>seqE st (hb U (d.step st) h2 q) fun y v ah ai q hv av st'=>?_) (zdH h2);refine ob1 (zai q) ?_;intro c hc q;exact zeX U.X.nolimit (zgt d) st'.rel (av.vr hu) hv hc fun t=>wpAny_truthy_bool ⟨.bool c,ah,q,rfl,st'.trans (.toks st'.rel t)⟩
theorem zn5 {o₁ o₂:CmpOp} {c:Ex} (ha:EvP C a) (hb:EvP C b) (hc:EvP C c):EvP C (.cmp2 o₁ o₂ a b c):=by
 intro k md af S x env A ad aa s Q X U d hm h;dsimp only [zgJ] at h;refine zpo hm ?_;intro l bF bD m r p hm
 ·simp only [qae,qaq] at hm;refine ob36 hm ?_;clear hm;intro ee104;subst ee104;intro ee105;subst ee105;intro h1 h2 h3;refine Compare_chain (seqE (.refl d.r) (ha U d h1 h) fun x u ae ag q hu J st=>chain_link (seqE st (hb U (d.step st) h2 q) fun y v ah ai q hv av st'=>?_)) (by show behindInMarks _ _=false;exact zdH h3)
  refine ob1 (zai q) ?_;intro r hr q;refine zeX U.X.nolimit (zgt d) st'.rel (av.vr hu) hv hr fun t=>wpAny_truthy_bool ?_;have st3:=st'.trans (.toks st'.rel t);cases r with
  |false=>exact ⟨.bool false,ah,q,.bool,st3⟩
  |true=>
   refine chain_last (seqE st3 (hc U (d.step st3) h3 q) fun z w aq az q hw aC st'=>fin st' ?_);refine ob1 (zai q) ?_;intro r hr q;exact zeX U.X.nolimit (zgt d) st'.rel (aC.vr (Step.vr (.toks (D:=No) st3.rel t) hv)) hw hr fun t=>.tok st'.rel q .bool
theorem zm6 {o₁ o₂:CmpOp} {c:Ex} (ha:EvP C a) (hb:EvP C b) (hc:EvP C c):TrP C (.cmp2 o₁ o₂ a b c):=by
 intro k md af S x env A ad aa s Q X U d hm h hq;dsimp only [zgJ] at h;refine zpo hm ?_;intro l bF bD m r p hm
 ·simp only [qae,qaq] at hm;refine ob36 hm ?_;clear hm;intro ee106;subst ee106;intro ee107;subst ee107;intro h1 h2 h3;refine isTrue_chain (seqE (.refl d.r) (ha U d h1 h) fun x u ae ag q hu J st=>test_link (seqE st (hb U (d.step st) h2 q) fun y v ah ai q hv av st'=>?_)) (by show behindInMarks _ _=false;exact zdH h3)
  refine ob1 (zai q) ?_;intro r hr q;refine zeX U.X.nolimit (zgt d) st'.rel (av.vr hu) hv hr fun t=>wpAny_truthy_bool ?_;have st3:=st'.trans (.toks st'.rel t);cases r with
  |false=>exact ⟨.bool false,ah,q,rfl,st3⟩
  |true=>
   refine test_last (seqE st3 (hc U (d.step st3) h3 q) fun z w aq az q hw aC st'=>?_);refine ob1 (zai q) ?_;intro r hr q;exact zeX U.X.nolimit (zgt d) st'.rel (aC.vr (Step.vr (.toks (D:=No) st3.rel t) hv)) hw hr fun t=>wpAny_truthy_bool ⟨.bool r,aq,q,rfl,st'.trans (.toks st'.rel t)⟩
theorem evs_nil:EvsP C .nil:=by
 intro k md af S xs env A ad aa s Q X pos U d hm h;cases xs with
 |nil=>simp only [zgI,zeu] at h;exact args_nil ⟨[],aa,h,.nil,.refl d.r⟩
 |cons _ _=>simp [za8,za9,zba,zbb] at hm
variable {es:Exs}
theorem zmf (he:EvP C e) (hs:EvsP C es):EvsP C (.cons e es):=by
 intro k md af S xs env A ad aa s Q X pos U d hm h;cases xs with
 |nil=>simp [za8,za9,zba,zbb] at hm
 |cons x xs=>
  simp only [za8,za9,zba,zbb,qae] at hm;simp only [zgI,zeu] at h;refine args_cons (seqE (.refl d.r) (he U d hm.1 h) fun y u ae ag q hu J st=>seqL st (hs U (d.step st) hm.2 q) fun ys vs ah ai q hv av st'=>⟨_,ah,q,.cons (av.vr hu) hv,st'⟩) (zbf hm.1)
theorem zfz {pos:Pos}:∀{es:Exs} {xs:List Expr},zaR S es xs=true->(backTo pos (starEach xs env)).any (·.1)=false
 |.nil,[],_=>rfl
 |.cons e es,x::xs,h=>by
  simp only [za8,za9,zba,zbb,qae] at h;rw [zbf h.1];show (false||(backTo pos (starEach xs env)).any (·.1))=false;rw [zfz (es:=es) h.2];rfl
 |.nil,_::_,h=>by simp [za8,za9,zba,zbb] at h
 |.cons _ _,[],h=>by simp [za8,za9,zba,zbb] at h
theorem zkY {xs:List Expr} {f:Value} {K:Args->Shared->Prop} (hm:zaR S es xs=true) (h:wpAny C.M A (spliced (backTo pos (starEach xs env))) (fun vs s'=>K ⟨vs,[]⟩ s') E s) :
  wpAny C.M A (evalArgs f true (backTo pos (starEach xs env)) []) K E s:=by
 cases xs with
 |nil=>
  unfold evalArgs
  first
   |exact qaa (wpAny_mono h (fun vs s' h'=>wpAny_holding (qaa (qab (qaa (qab (qab h')))))) fun J J e=>e)
   |exact qaa (wpAny_mono h (fun vs s' h'=>qaa (qab (wpAny_holding (qaa (qab (qaa (qab (qab h')))))))) fun J J e=>e)
 |cons x xs=>
  cases es with
  |nil=>simp [za8,za9,zba,zbb] at hm
  |cons e es=>
   simp only [za8,za9,zba,zbb,qae] at hm;rw [zbf hm.1] at h ⊢;exact evalArgs_plain h
theorem Dyn.run (d:Dyn C k md S A env ad aa s):ARun C k md A aa s.heap:=by
 refine lift fun g9 k9=>?_;obtain ⟨a1,a2,a3,a4⟩:=d.a
 apply k9
 clear k9 g9;exact ⟨a1,a2,by lia,by lia⟩
theorem zn6 {f:String} (hs:EvsP C es):EvP C (.call f es):=by
 intro k md af S x env A ad aa s Q X U d hm h;dsimp only [ziB] at h
 replace h:=zbG h
 refine ncME hm ?_;intro id p xs pos hm
 ·simp only [qae] at hm;refine ob14 (U.ca.dom _ _ h.1) ?_;intro a ha;refine ob37 (U.X.fnG f a ha) ?_;intro hg o fd ho hd;refine Call_Name rfl (zeT U d.r hm.1 hg (callWith_function (o:=o) (fd:=fd) (zkY hm.2 (seqL (.refl d.r) (hs U d hm.2 h.2) fun xs vs ae ag q hv J st=>⟨⟨st.rel.stays a o ho,hd⟩,?_⟩))));refine wpAny_mono (wpAny_call (U.ca.run ha (d.step st).run st.rel hv q)) (fun J J hx=>hx.from st) fun J J hx=>hx.from st
variable {o:Ex}
theorem znY {name:String} (ho:EvP C o) (hs:EvsP C es):EvP C (.meth o name es):=by
 intro k md af S x env A ad aa s Q X U d hm h;dsimp only [ziv] at h;refine acME hm ?_;intro x id apos xs pos hm
 ·simp only [qae,qaq] at hm;refine ob38 hm ?_;clear hm;intro ee108;subst ee108;intro hline hb hlen h1 h2;rw [arm_eval_Call,zfx hb];refine qaa (seqE (.refl d.r) (ho U d h1 h) fun y u ae ag q hu J st=>qaa (wpAny_standAt ?_));refine lift fun g9 k9=>?_;obtain ⟨a,c,dd,fs,rfl,ha,hd,⟨hl,hh⟩,q⟩:=zcM q;refine ob14 (U.ca.dom _ _ hh) ?_;intro fa hfa;cases hu.ref_of;refine ob1 (st.rel.tr a _ ha) ?_;intro Cl hcl hi
  apply k9
  clear k9 g9;have hne:c ≠ "" := fun e=>by rw [e,U.X.clsNe] at hcl;cases hcl
  refine ob39 (U.X.meth c name fa Cl hfa hne hcl) ?_;intro J J J ob fd hob hdat;have hform:methodCallForm (xs.length+([]:List Keyword).length) (backTo pos (starEach xs env)) (backToKw pos (keywordEach [] env))=true:=by
   unfold methodCallForm;have:=zfz (env:=env) (pos:=pos) (es:=es) h2;have h0:(backTo pos (starEach xs env)).all (fun x => !x.1)=true:=by
    rw [List.all_eq_true];intro y hy;rw [List.any_eq_false] at this
    simpa using this y hy
   rw [h0];simp only [List.length_nil,Nat.add_zero,Bool.true_and,qae,qaq];exact ⟨rfl,hlen⟩
  have hpos:methodCallPos true x env apos pos=pure pos:=by unfold methodCallPos;rw [hline];rfl
  unfold methodCall;rw [hform];refine qaa (wpAny_holding ?_);show wpAny _ _ (getMethod _ _ _) _ _ _;refine zgj (Cl:=Cl) U.X st.rel ha hd hl hfa hne ?_;refine qaa (wpAny_of_eq hpos ?_);refine callWith_function (o:=ob) (fd:=fd) (zkY h2 (seqL st (hs U (d.step st) h2 q) fun xs vs ah ai q hv av st'=>⟨⟨st'.rel.stays fa ob hob,hdat⟩,?_⟩));exact wpAny_mono (wpAny_call (U.ca.run hfa (d.step st').run st'.rel (.cons .ref hv) q)) (fun J J hx=>hx.from st') fun J J hx=>hx.from st'
theorem zft {xs:List Expr} {Cl:Addr} (hK:C.K.In s.heap) (hk:keepIn C.K (.ref Cl)=true) (hm:zaR S es xs=true)
  (h:wpAny C.M A (spliced (backTo pos (starEach xs env))) (fun vs ag=>C.K.In ag.heap/\wpAny C.M A (call (.ref Cl) vs) K E ag) E s):wpAny C.M A (callWith pos (.ref Cl) [] (backTo pos (starEach xs env)) []) K E s:=by
 cases xs with
 |nil=>exact callWith_K0 hK hk (fun aK p aW=>((h aK p aW:C.K.In s.heap/\wpAny C.M A (call (.ref Cl) []) K E s)).2 aK p aW)
 |cons x xs=>
  cases es with
  |nil=>simp [za8,za9,zba,zbb] at hm
  |cons e es=>
   have hm':=hm;simp only [za8,za9,zba,zbb,qae] at hm;exact callWith_K hK hk h (zbf hm.1) (zfz hm.2)
theorem zn0 {c:String} (hs:EvsP C es):EvP C (.make c es):=by
 intro k md af S x env A ad aa s Q X U d hm h;dsimp only [zix] at h
 replace h:=zbG h
 refine ncME hm ?_;intro id p xs pos hm
 ·simp only [qae,qaq] at hm;refine lift fun g9 k9=>?_;refine ob14 (U.ca.dom _ _ h.1) ?_;intro fa hfa;refine ob18 hm ?_;clear hm;intro hne hg hmm;refine ob35 (U.X.made c fa hfa hne) ?_;intro Cl hcl hkp hmk hfi hty
  apply k9
  clear k9 g9;refine Call_Name rfl (zeT U d.r hg (U.X.clsG c Cl hcl) (zft (zeQ U.X d.r) hkp hmm (seqL (.refl d.r) (hs U d hmm h.2) fun xs vs ae ag q hv J st=>⟨zeQ U.X st.rel,?_⟩)));refine lift fun g9 k9=>?_;obtain ⟨hh,g,dr,tk,os⟩:=ag
  apply k9
  clear k9 g9;have hK:C.K.In hh:=zeQ U.X st.rel;refine wpAny_call (make_core (makes_of hK hmk) (looks_findIn hK hfi) (fun self=>bind_fn hK self hty) (.inl rfl) ?_);have hsz:(hh.push emptyDict).objs.size=hh.objs.size+1:=Heap.size_push ..;have st1:Step C No ae ⟨hh,g,dr,tk,os⟩ (ae.upd hh.objs.size (.ns [])) ⟨hh.push emptyDict,g,dr,tk,os⟩:=
   Step.alloc (s:=⟨hh,g,dr,tk,os⟩) (t:=tk) st.rel zad zaA (qal _) ⟨[],0,qax _ rfl,trivial,.nil⟩
  have st2:Step C No (ae.upd hh.objs.size (.ns [])) ⟨hh.push emptyDict,g,dr,tk,os⟩ ((ae.upd hh.objs.size (.ns [])).upd (hh.objs.size+1) (.inst c hh.objs.size)) ⟨(hh.push emptyDict).push (instObj Cl hh.objs.size),g,dr,tk,os⟩:=
   Step.alloc (s:=⟨hh.push emptyDict,g,dr,tk,os⟩) (t:=tk) st1.rel zad zaA (by rw [hsz];exact qal _) ⟨Cl,hcl,by rw [←hsz];exact qax _ rfl⟩
  have st12:=st1.trans st2;have hq:=q (hh.objs.size+1) hh.objs.size (st.rel.none_of_ge (Nat.le_succ _)) (st.rel.none_of_ge (qal _)) (Nat.succ_ne_self _);have a':=(d.step (st.trans st12)).a;have ar:ARun C k md (A.under (.builtin "type.__call__" ⟨.ref Cl::xs,[]⟩)) ((ae.upd hh.objs.size (.ns [])).upd (hh.objs.size+1) (.inst c hh.objs.size)) ((hh.push emptyDict).push (instObj Cl hh.objs.size)):=by
   refine lift fun g9 k9=>?_;obtain ⟨a1,a2,a3,a4⟩:=a'
   apply k9
   clear k9 g9;refine ⟨a1,a2,?_,?_⟩
   ·show A.depth+1+3*k+1<990;lia
   ·show A.units+(1+3*(Code.builtin "type.__call__" ⟨.ref Cl::xs,[]⟩).frames)+40*k+10<9000;have:(Code.builtin "type.__call__" ⟨.ref Cl::xs,[]⟩).frames=0:=by rfl
    lia
  refine codeAny_mono (U.ca.run hfa ar st12.rel (.cons .ref (st12.vrs hv)) hq) fun r s' z=>?_
  rcases r with e |(v |_ |_ |_)
  ·exact z.from (st.trans st12)
  all_goals first |exact z.elim |skip
  refine ob40 z ?_;clear z;intro V ac ee109;subst ee109;intro q' hv' st';cases hv'.none_of;exact ⟨rfl,.ref _,ac,q',.ref,(st.trans st12).trans st'⟩
theorem zn8 {name:String} (ho:EvP C o):EvP C (.attr o name):=by
 intro k md af S x env A ad aa s Q X U d hm h;dsimp only [ziC] at h;refine atME hm ?_;intro y id p hm
 ·simp only [qae,qaq] at hm;refine ob18 hm ?_;clear hm;intro ee110;subst ee110;intro hb h1;rw [arm_eval_Attribute,zfx hb];refine qaa (seqE (.refl d.r) (ho U d h1 h) fun y u ae ag q hu J st=>qaa (wpAny_standAt (qaa (wpAny_holding ?_))));exact zor U.X st.rel hu (fun c=>U.ca.fld c name) q fun z w t q hz=>qaa (wpAny_letTemporaryGo (qab (PostV.from st (.tok st.rel q hz))))
theorem zpi (ha:EvP C a) (hb:EvP C b):EvP C (.idx a b):=by
 intro k md af S x env A ad aa s Q X U d hm h;dsimp only [zmE] at h;refine suME hm ?_;intro y z p hm
 ·simp only [qae] at hm;refine Subscript_ (seqE (.refl d.r) (ha U d hm.1 h) fun x u ae ag q hu J st=>seqE st (hb U (d.step st) hm.2 q) fun y v ah ai q hv av st'=>fin st' ?_);exact znI (K:=fun z=>Q z ah) st'.rel (av.vr hu) hv q fun z w q hz=>.now st'.rel q hz
theorem evo_none:EvoP C .none:=by
 intro k md af S x env A ad aa s Q X U d hm h;cases x with
 |none=>simp only [zgE,zgD] at h;exact qab (.now d.r h .none)
 |some _=>simp [znB,znA,znz,zny] at hm
theorem zmg (he:EvP C e):EvoP C (.some e):=by
 intro k md af S x env A ad aa s Q X U d hm h;cases x with
 |none=>simp [znB,znA,znz,zny] at hm
 |some x=>simp only [zgE,zgD] at h;simp only [znB,znA,znz,zny] at hm;exact he U d hm h
theorem zmi {lo hi:ExO} (ha:EvP C a) (hlo:EvoP C lo) (hhi:EvoP C hi):EvP C (.slice a lo hi):=by
 intro k md af S x env A ad aa s Q X U d hm h;dsimp only [zfG] at h;refine zoL hm ?_;intro y l u q p hm
 ·simp only [qae] at hm;refine ob18 hm ?_;clear hm;intro h1 h2 h3;refine Subscript_ (seqE (.refl d.r) (ha U d h1 h) fun x u ae ag q hu J st=>wpAny_Slice (seqE st (hlo U (d.step st) h2 q) fun y v ah ai q hv av st'=>seqE st' (hhi U (d.step st') h3 q) fun z w aq az q hw aC st''=>?_));rw [evalPart_none];exact qab (fin st'' (zlv st''.rel (aC.vr (av.vr hu)) (aC.vr hv) hw q))
theorem zn1 (hs:EvsP C es):EvP C (.list es):=by
 intro k md af S x env A ad aa s Q X U d hm h;dsimp only [ziy] at h;refine liME hm ?_;intro xs p hm
 ·refine wpAny_List (seqL (.refl d.r) (hs U d hm h) fun xs vs ae ag q hv J st=>?_);have e:=hv.length;exact ⟨zch (by lia),.from st (zbH (n:=0) (t:=ag.toks) st.rel q.2 zad zaA (qal _) (qax _ rfl) hv q.1)⟩
theorem zmh (hs:EvsP C es):EvP C (.tuple es):=by
 intro k md af S x env A ad aa s Q X U d hm h;dsimp only [zfF] at h;refine tuME hm ?_;intro xs kk p hm
 ·refine wpAny_Tuple (seqL (.refl d.r) (hs U d hm h) fun xs vs ae ag q hv J st=>?_);have e:=hv.length;refine ⟨zch (by lia),.from st ⟨.tup vs,ae,q.2,.tup (n:=0) (qax _ rfl) (hv.keep fun b o e J=>zad _ _ e),.grow (t:=ag.toks) st.rel zad zaA⟩⟩
theorem zlL (h:Heap):KR C.prog C.w (h.push { cls:=.type "dict",data:=.dict #[] }) h.objs.size []:=
 .inl ⟨[],rfl,_,#[],0,qax _ rfl,⟨rfl,rfl,rfl⟩,rfl,fun J h=>by simp at h,.nil,.nil⟩
theorem zmk:EvP C .dict0:=by
 intro k md af S x env A ad aa s Q X U d hm h;dsimp only [zfH] at h;refine diME hm ?_;intro ks vs p hm;refine l0E hm ?_;intro hm;refine l0E hm ?_;intro hm
 ·exact wpAny_Dict_empty ⟨.ref _,_,h _ (d.r.none_of_ge (qal _)),.ref,.alloc (t:=s.toks) d.r zad zaA (qal _) ⟨zlL _,Nat.zero_le _⟩⟩
theorem zjW {env:Env} {y:Expr}:(evalEachOpt [some x] env).zip ((evalEach [y] env).map fun v=>do let x ←v;standAt pos;pure x)=[(eval x env,(do let v ←eval y env;standAt pos;pure v:Sem Value))].map fun p=>(some p.1,p.2):=rfl
theorem zmj:EvP C (.dict1 i):=by
 intro k md af S x env A ad aa s Q X U d hm h;refine diME hm ?_;intro ks vs p hm;refine l1E hm ?_;intro o hm;refine o1E hm ?_;intro y hm;refine l1E hm ?_;intro z hm;simp only [qae] at hm;refine lift fun g9 k9=>?_;refine ob16 hm ?_;clear hm;intro hm1 hm2;refine ob6 (zai h) ?_;intro u hu hi q;refine ob14 (zcR hi) ?_;intro n ee111;subst ee111
 apply k9
 clear k9 g9;refine nmME hm1 ?_;intro id np hm1;refine ob35 (Sc.var_elim hm1) ?_;intro nm ee112;subst ee112;intro h1 h2 h3 h4;refine cME hm2 ?_;intro c kk cp hm2;cases of_decide_eq_true hm2;have st:Step C No aa s aa { s with heap:=s.heap.push { cls:=.type "dict",data:=.dict #[] } }:=.grow (t:=s.toks) d.r zad zaA;have d':=d.step st;refine wpAny_Dict_pairs (knd:=intKind C.prog C.w) zjW (by simp) (by simp) (evalPairs_cons ?_)
 refine zka (s:={ s with heap:=s.heap.push { cls:=.type "dict",data:=.dict #[] } }) U.ev.toEnvOk d'.l h1 hu (by rw [U.ev.kindOf];exact h2) h3 h4 fun w hw=>?_
 refine ob14 hw.int_of ?_;intro t ee113;subst ee113;refine qaa (wpAny_Constant_bool (qaa (wpAny_standAt (qab (evalPairs_nil ⟨[(n,.bool true)],⟨zaZ n t,rfl,trivial⟩,Heap.DictOf.new s.heap,fun h' hd hs=>?_⟩)))));refine ⟨.ref _,_,q _ (d.r.none_of_ge (qal _)),.ref,.alloc (t:=s.toks+1) d.r (fun b ob e=>?_) ?_ (qal _) ⟨.inl ⟨[n],rfl,hd⟩,by simp [zao]⟩⟩
 ·exact (hs.2 b (Nat.ne_of_lt (Heap.lt_size e))).trans (zad _ _ e)
 ·exact qak zaA (Nat.le_of_eq hs.1.symm)
theorem zoR {id:String} (hm:zal S e x=true) (h:wpAny C.M A (eval x env) (fun v ag=>wpAny C.M A (call (.builtin id) [v]) K E ag) E s) :
  wpAny C.M A (callWith pos (.builtin id) [] (backTo pos (starEach [x] env)) []) K E s:=by
 rw [zbf hm];exact callWith_builtin (by rfl) (evalArgs_plain (spliced_cons (wpAny_mono h (fun v ag ao=>spliced_nil ao) fun J J e=>e)))
theorem zjT {id:String} (hm:zal S e x=true) (h:wpAny C.M A (eval x env) (fun v ag=>wpAny C.M A (call (.type id) [v]) K E ag) E s) :
  wpAny C.M A (callWith pos (.type id) [] (backTo pos (starEach [x] env)) []) K E s:=by
 rw [zbf hm];exact PySem.callWith_type (by rfl) (evalArgs_plain (spliced_cons (wpAny_mono h (fun v ag ao=>spliced_nil ao) fun J J e=>e)))
theorem zjU {id:String} {y:Expr} {e':Ex} (hm:zal S e x=true) (hm':zal S e' y=true)
  (h:wpAny C.M A (eval x env) (fun v ag=>wpAny C.M A (eval y env) (fun u ai=>wpAny C.M A (call (.builtin id) [v,u]) K E ai) E ag) E s) :
  wpAny C.M A (callWith pos (.builtin id) [] (backTo pos (starEach [x,y] env)) []) K E s:=by
 rw [zbf hm,zbf hm'];exact callWith_builtin (by rfl) (evalArgs_plain (spliced_cons (wpAny_mono h (fun v ag ao=>spliced_cons (wpAny_mono ao (fun u ai aB=>spliced_nil aB) fun J J e=>e)) fun J J e=>e)))
theorem zpW {f:B1} (he:EvP C e):EvP C (.b1 f e):=by
 intro k md af S x env A ad aa s Q X U d hm h;dsimp only [E_b1] at h;refine ncME hm ?_;intro nid np xs pos hm;refine l1E hm ?_;intro x hm
 ·simp only [qae] at hm;have hb:∀{id:String},(zkW f,Value.builtin id)∈bNames->(∀v V ae ag,b1V md f V ae Q->VR ag.heap V v->Step C No aa s ae ag->wpAny C.M A (call (.builtin id) [v]) (PostV C ae ag Q) (PostX C aa s X) ag)->wpAny C.M A (eval (.Call (.Name nid np) [x] [] pos) env) (PostV C aa s Q) (PostX C aa s X) s:=
   fun {id} hin go=>Call_Name rfl (zcr U d.r hm.1 hin (zoR hm.2 (seqE (.refl d.r) (he U d hm.2 h) fun v V ae ag q hv J st=>fin st (go v V ae ag q hv st))))
  have ht:∀{id:String},(zkW f,Value.type id)∈bNames->(∀v V ae ag,b1V md f V ae Q->VR ag.heap V v->Step C No aa s ae ag->wpAny C.M A (call (.type id) [v]) (PostV C ae ag Q) (PostX C aa s X) ag)->wpAny C.M A (eval (.Call (.Name nid np) [x] [] pos) env) (PostV C aa s Q) (PostX C aa s X) s:=
   fun {id} hin go=>Call_Name rfl (zcr U d.r hm.1 hin (zjT hm.2 (seqE (.refl d.r) (he U d hm.2 h) fun v V ae ag q hv J st=>fin st (go v V ae ag q hv st))))
  cases f with
  |other e=>exact e.elim
  |len=>exact hb (id := "len") (qav (i:=0) rfl) fun v V ae ag q hv st=>PostV.len st.rel hv q
  |list=>exact ht (id := "list") (qav (i:=1) rfl) fun v V ae ag q hv st=>zkc st.rel hv q
  |sorted=>exact hb (id := "sorted") (qav (i:=2) rfl) fun v V ae ag q hv st=>zjL U.X.nolimit (fun h=>d.a.handled h) st.rel hv q
  |int=>
   refine ht (id := "int") (qav (i:=3) rfl) fun v V ae ag q hv st=>?_;cases hv with
   |bool=>exact zja st.rel q
   |_=>exact q.elim
  |all=>exact hb (id := "all") (qav (i:=4) rfl) fun v V ae ag q hv st=>zpy (d.a.handled q.1) st.rel hv q.2
  |any=>exact hb (id := "any") (qav (i:=5) rfl) fun v V ae ag q hv st=>zpv (d.a.handled q.1) st.rel hv q.2
  |dict=>exact ht (id := "dict") (qav (i:=7) rfl) fun v V ae ag q hv st=>zkH (d.a.handled q.1) st.rel hv q.2
theorem znU (he:EvP C e):EvP C (.sset e):=by
 intro k md af S x env A ad aa s Q X U d hm h;dsimp only [zis] at h;refine ncME hm ?_;intro nid np xs pos hm;refine l1E hm ?_;intro y hm
 ·simp only [qae] at hm;refine ob16 hm ?_;clear hm;intro h0 hm2;refine ncME hm2 ?_;intro nid2 np2 ys pos2 hm2;refine l1E hm2 ?_;intro z hm2
  ·simp only [qae] at hm2;refine Call_Name rfl (zcr (v:=.builtin "sorted") U d.r h0 (qav (i:=2) rfl) ?_);refine callWith_builtin (by rfl) (evalArgs_plain (spliced_cons (wpAny_mono (Q:=fun v ag=>wpAny C.M A (call (.builtin "sorted") [v]) (PostV C aa s Q) (PostX C aa s X) ag) ?_ (fun v ag ao=>spliced_nil ao) fun J J e=>e)))
   refine Call_Name rfl (zcr (v:=.type "set") U d.r hm2.1 (qav (i:=8) rfl) (zjT hm2.2 (seqE (.refl d.r) (he U d hm2.2 h) fun v V ae ag q hv J st=>?_)));have hmd:=q.1;subst hmd;exact wpAny_mono (zne (d.a.handled rfl) st.rel hv q) (fun J J aB=>fin st aB) fun J J e=>e
theorem zoU (a b:Int) (t u:Tok) (h:Heap):VR h (.int (max a b)) (if b > a then .int b u else .int a t):=by
 split
 ·rw [show max a b=b by lia];exact .int
 ·rw [show max a b=a by lia];exact .int
theorem zoT (a b:Int) (t u:Tok) (h:Heap):VR h (.int (min a b)) (if b<a then .int b u else .int a t):=by
 split
 ·rw [show min a b=b by lia];exact .int
 ·rw [show min a b=a by lia];exact .int
theorem znX (ha:EvP C a) (hb:EvP C b):EvP C (.min2 a b):=by
 intro k md af S x env A ad aa s Q X U d hm h;dsimp only [ziu] at h
 replace h:=zbG h
 refine ncME hm ?_;intro nid np xs pos hm;refine l2E hm ?_;intro x y hm
 ·simp only [qae] at hm;refine ob18 hm ?_;clear hm;intro h0 h1 h2;refine ob16 h ?_;clear h;intro hmd h;refine Call_Name rfl (zcr (v:=.builtin "min") U d.r h0 (qav (i:=10) rfl) (zjU h1 h2 (seqE (.refl d.r) (ha U d h1 h) fun x u ae ag q hu J st=>seqE st (hb U (d.step st) h2 q) fun y v ah ai q hv av st'=>fin st' ?_)));refine lift fun g9 k9=>?_;refine ob1 (zaM q) ?_;intro i ee114;subst ee114;intro q1;refine ob1 (zaM q1) ?_;intro j ee115;subst ee115;intro q2;refine ob14 hu.int_of ?_;intro t ee116;subst ee116;refine ob14 hv.int_of ?_;intro t' ee117;subst ee117
  apply k9
  clear k9 g9;exact zav (min_two_ints (d.a.handled hmd) fun h' tk kk hsz=>⟨_,ah,q2,zoT ..,.grow st'.rel kk hsz⟩)
theorem znZ (ha:EvP C a) (hb:EvP C b):EvP C (.max2 a b):=by
 intro k md af S x env A ad aa s Q X U d hm h;dsimp only [ziw] at h
 replace h:=zbG h
 refine ncME hm ?_;intro nid np xs pos hm;refine l2E hm ?_;intro x y hm
 ·simp only [qae] at hm;refine ob18 hm ?_;clear hm;intro h0 h1 h2;refine ob16 h ?_;clear h;intro hmd h;refine Call_Name rfl (zcr (v:=.builtin "max") U d.r h0 (qav (i:=9) rfl) (zjU h1 h2 (seqE (.refl d.r) (ha U d h1 h) fun x u ae ag q hu J st=>seqE st (hb U (d.step st) h2 q) fun y v ah ai q hv av st'=>fin st' ?_)));refine lift fun g9 k9=>?_;refine ob1 (zaM q) ?_;intro i ee118;subst ee118;intro q1;refine ob1 (zaM q1) ?_;intro j ee119;subst ee119;intro q2;refine ob14 hu.int_of ?_;intro t ee120;subst ee120;refine ob14 hv.int_of ?_;intro t' ee121;subst ee121
  apply k9
  clear k9 g9;exact zav (max_two_ints (d.a.handled hmd) fun h' tk kk hsz=>⟨_,ah,q2,zoU ..,.grow st'.rel kk hsz⟩)
theorem zox {t:Ty} {c:Value} (h:tyV t=some c):(zmG t,c)∈bNames:=by
 cases t with
 |int=>cases h;exact qav (i:=3) rfl
 |bool=>cases h;exact qav (i:=14) rfl
 |tuple=>cases h;exact qav (i:=6) rfl
 |list=>cases h;exact qav (i:=1) rfl
 |str=>cases h;exact qav (i:=15) rfl
 |cls _=>cases h
theorem zi8 {D:String} {u:V} {b:Bool} (e:zdA aa u (.cls D)=some b):∃a c,u=.ref a/\aa a=some (.exc c)/\c∈excNames/\b=zdc c D:=by
 cases u with
 |ref a=>
  change (match aa a with |some (.exc c)=>if c∈excNames then some (zdc c D) else none |_=>none)=_ at e
  cases hs:aa a with
  |none=>rw [hs] at e;exact zar e
  |some o=>
   rw [hs] at e;cases o with
   |exc c=>
    change (if c∈excNames then some (zdc c D) else none)=_ at e
    by_cases hc:c∈excNames
    ·rw [if_pos hc] at e;cases e;exact ⟨_,_,rfl,hs,hc,rfl⟩
    ·rw [if_neg hc] at e;exact zar e
   |_=>exact zar e
 |_=>exact zar e
theorem zn2 {t:Ty} (he:EvP C e):EvP C (.isin e t):=by
 intro k md af S x env A ad aa s Q X U d hm h;dsimp only [ziz] at h;refine ncME hm ?_;intro id p xs pos hm;refine l2E hm ?_;intro x z hm;refine nmME hm ?_;intro id' p' hm
 ·simp only [qae] at hm;refine ob41 hm ?_;clear hm;intro htk h0 h1 h2;refine Call_Name rfl (zcr (v:=.builtin "isinstance") U d.r h0 (qav (i:=11) rfl) ?_);rw [zbf h2];refine callWith_builtin (by rfl) (evalArgs_plain (spliced_cons (seqE (.refl d.r) (he U d h2 h) fun x u ae ag q hu J st=>?_)))
  show wpAny _ _ (spliced ((false,eval (.Name id' p') env)::[])) _ _ _;refine spliced_cons ?_;refine ob1 (zai q) ?_;intro b hb q
  by_cases ht:∃D,t=.cls D
  ·refine lift fun g9 k9=>?_;refine ob14 ht ?_;clear ht;intro D ee122;subst ee122;refine ob17 (zi8 hb) ?_;intro a c ee123;subst ee123;intro ha hc ee124;subst ee124;cases hu.ref_of;refine ob4 (st.rel.tr a _ ha) ?_;intro Cl o vs hcl ho hoc hod
   apply k9
   clear k9 g9;have fin':∀vD,clsV C D=some vD->wpAny C.M A (call (.builtin "isinstance") [.ref a,vD]) (PostV C aa s Q) (PostX C aa s X) ag:=fun vD hvD=>
    U.I.isi hc (of_decide_eq_true htk) hvD st.rel.stays hcl ho hoc.1 hoc.2 hod fun tk=>.from st (.tok st.rel q .bool)
   have hD:(∃vD,clsV C D=some vD):=U.I.dom D (of_decide_eq_true htk);refine ob14 hD ?_;clear hD;intro vD hvD
   rcases U.I.clsV D vD hvD with hg |⟨rfl,rfl⟩
   ·exact zeT U st.rel h1 hg (spliced_nil (fin' vD hvD))
   ·exact zcr U st.rel h1 (qav (i:=16) rfl) (spliced_nil (fin' _ hvD))
  ·have:∃c,tyV t=some c:=by cases t<;>first |exact ⟨_,rfl⟩ |exact absurd ⟨_,rfl⟩ ht
   refine ob14 this ?_;clear this;intro c hc;exact zcr U st.rel h1 (zox hc) (spliced_nil (znL st.rel hu hc hb fun tk=>.from st (.tok st.rel q .bool)))
/- and,or -/
def BoP (C:Cx) (es:Exs):Prop:=∀ ⦃k:Nat⦄ ⦃md:Bool⦄ ⦃af:Calls⦄ ⦃S:Sc⦄ ⦃xs:List Expr⦄ ⦃env:Env⦄ ⦃A:Around⦄ ⦃ad:Loc⦄ ⦃aa:Store⦄ ⦃s:Shared⦄ ⦃Q:V->Store->Prop⦄ ⦃X:XP⦄ ⦃pos:Pos⦄ ⦃isAnd:Bool⦄,
 Sur C k md af S env->Dyn C k md S A env ad aa s->zaR S es xs=true->zdv af md isAnd es ad aa Q X->wpAny C.M A (boolOp pos (if isAnd then .And else .Or) (evalEach xs env)) (PostV C aa s Q) (PostX C aa s X) s
def BtP (C:Cx) (es:Exs):Prop:=∀ ⦃k:Nat⦄ ⦃md:Bool⦄ ⦃af:Calls⦄ ⦃S:Sc⦄ ⦃xs:List Expr⦄ ⦃env:Env⦄ ⦃A:Around⦄ ⦃ad:Loc⦄ ⦃aa:Store⦄ ⦃s:Shared⦄ ⦃Q:V->Store->Prop⦄ ⦃X:XP⦄ ⦃isAnd:Bool⦄,
 Sur C k md af S env->Dyn C k md S A env ad aa s->zaR S es xs=true->zdv af md isAnd es ad aa Q X->(∀V ac,Q V ac->∃b,Mine.Internal.truthy ac V=some b)->wpAny C.M A (allTrue (if isAnd then .And else .Or) xs env) (zju C aa s Q) (PostX C aa s X) s
theorem bo_nil:BoP C .nil:=by
 intro k md af S xs env A ad aa s Q X pos isAnd U d hm h;exact False.elim h
theorem bt_nil:BtP C .nil:=by
 intro k md af S xs env A ad aa s Q X isAnd U d hm h;exact fun J=>False.elim h
theorem zop (he:EvP C e) (hs:BoP C es):BoP C (.cons e es):=by
 intro k md af S xs env A ad aa s Q X pos isAnd U d hm h;cases xs with
 |nil=>simp [za8,za9,zba,zbb] at hm
 |cons x xs=>
  simp only [za8,za9,zba,zbb,qae] at hm;cases es with
  |nil=>
   cases xs with
   |nil=>simp only [zhF,zev] at h;exact he U d hm.1 h
   |cons _ _=>simp [za8,za9,zba,zbb] at hm
  |cons e' es=>
   cases xs with
   |nil=>simp [za8,za9,zba,zbb] at hm
   |cons y ys=>
    simp only [zhF,zev] at h;show wpAny C.M A (do
     let v ←eval x env
     standAt pos
     let c ←holding [v] (PySem.truthy v)
     match (if isAnd then BoolOp.And else BoolOp.Or),c with
     |.And,false |.Or,true=>pure v
     |_,_=>boolOp pos (if isAnd then .And else .Or) (evalEach (y::ys) env)) _ _ s
    refine qaa (seqE (.refl d.r) (he U d hm.1 h) fun v V ae ag q hv J st=>qaa (wpAny_standAt (qaa (wpAny_holding ?_))));refine ob1 (zai q) ?_;intro b hb q;refine zdR hv hb ?_;have go:b=isAnd->wpAny C.M A (boolOp pos (if isAnd then .And else .Or) (evalEach (y::ys) env)) (PostV C aa s Q) (PostX C aa s X) ag:=fun e=>by
     rw [if_pos e] at q;exact wpAny_mono (hs U (d.step st) hm.2 q) (fun J J hx=>hx.from st) fun J J hx=>hx.from st
    have no:b≠isAnd->PostV C aa s Q v ag:=fun e=>by
     rw [if_neg e] at q;exact ⟨V,ae,q,hv,st⟩
    cases isAnd<;>cases b
    ·exact go rfl
    ·exact qab (no (by decide))
    ·exact qab (no (by decide))
    ·exact go rfl
theorem zol (he:TrP C e) (hs:BtP C es):BtP C (.cons e es):=by
 intro k md af S xs env A ad aa s Q X isAnd U d hm h hq;cases xs with
 |nil=>simp [za8,za9,zba,zbb] at hm
 |cons x xs=>
  simp only [za8,za9,zba,zbb,qae] at hm;show wpAny C.M A (do
   match (if isAnd then BoolOp.And else BoolOp.Or),←isTrue x env (eval x env) with
   |.And,false=>pure false
   |.Or,true=>pure true
   |_,_=>allTrue (if isAnd then .And else .Or) xs env) _ _ s
  cases es with
  |nil=>
   cases xs with
   |nil=>
    simp only [zhF,zev] at h;refine qaa (seqB (.refl d.r) (he U d hm.1 h hq) fun b V ae ag q hb J st=>?_);cases isAnd<;>cases b<;>exact qab ⟨V,ae,q,hb,st⟩
   |cons _ _=>simp [za8,za9,zba,zbb] at hm
  |cons e' es=>
   cases xs with
   |nil=>simp [za8,za9,zba,zbb] at hm
   |cons y ys=>
    simp only [zhF,zev] at h;refine qaa (seqB (.refl d.r) (he U d hm.1 h fun V ac q=>?_) fun b V ae ag q hb J st=>?_)
    ·refine ob1 (zai q) ?_;intro b hb J;exact ⟨b,hb⟩
    refine ob1 (zai q) ?_;intro b' hb' q;rw [hb] at hb';cases hb';have go:b=isAnd->wpAny C.M A (allTrue (if isAnd then .And else .Or) (y::ys) env) (zju C aa s Q) (PostX C aa s X) ag:=fun e=>by
     rw [if_pos e] at q;exact wpAny_mono (hs U (d.step st) hm.2 q hq) (fun _ _ ⟨V,ac,q1,q2,q3⟩=>⟨V,ac,q1,q2,st.trans q3⟩) fun J J hx=>hx.from st
    have no:b≠isAnd->zju C aa s Q b ag:=fun e=>by
     rw [if_neg e] at q;exact ⟨V,ae,q,hb,st⟩
    cases isAnd<;>cases b
    ·exact go rfl
    ·exact qab (no (by decide))
    ·exact qab (no (by decide))
    ·exact go rfl
theorem zn7 {isAnd:Bool} (hs:BoP C es):EvP C (.bool isAnd es):=by
 intro k md af S x env A ad aa s Q X U d hm h;dsimp only [zgK] at h;refine boME hm ?_;intro op xs p hm
 ·simp only [qae,qaq] at hm;refine ob16 hm ?_;clear hm;intro ee125;subst ee125;intro hm;rw [arm_eval_BoolOp];exact hs U d hm h
theorem zm7 {isAnd:Bool} (hs:BtP C es):TrP C (.bool isAnd es):=by
 intro k md af S x env A ad aa s Q X U d hm h hq;dsimp only [zgK] at h;refine boME hm ?_;intro op xs p hm
 ·simp only [qae,qaq] at hm;refine ob16 hm ?_;clear hm;intro ee126;subst ee126;intro hm;exact wpAny_isTrue_BoolOp (hs U d hm h hq)
/- methods of lists -/
theorem zkb {a:Addr} {vs:List V} (r:Rel C aa s.heap) (ha:aa a=some (.list vs)):s.TypeIs (.ref a) "list" /\ ∀b,Value.ref a=.ref b->∃ob,s.heap.get? b=some ob/\ob.dict=none:=by
 refine ob22 (r.list ha) ?_;intro xs n hL J;exact ⟨⟨_,hL,rfl⟩,fun b e=>by cases e;exact ⟨_,hL,rfl⟩⟩
theorem zpU {m:M0} (ho:EvP C o):EvP C (.m0 o m):=by
 intro k md af S x env A ad aa s Q X U d hm h;dsimp only [E_m0] at h;refine acME hm ?_;intro x id apos xs pos hm;refine l0E hm ?_;intro hm
 ·simp only [qae,qaq] at hm;refine ob41 hm ?_;clear hm;intro ee127;subst ee127;intro hline hb h1;refine Call_method0 (zfx hb _) hline (seqE (.refl d.r) (ho U d h1 h) fun y u ae ag q hu J st=>?_);refine lift fun g9 k9=>?_;refine ob2 (zat q) ?_;intro a vs ee128;subst ee128;intro ha J;cases hu.ref_of;refine ob16 (zkb st.rel ha) ?_;intro hT hdn
  apply k9
  clear k9 g9;cases m with
  |pop=>exact ⟨"list", "list.pop",F.plainAttrs_list,F.slot_list_pop,F.type_list_pop,hT,hdn,fin st (zpO st.rel hu rfl q)⟩
theorem zpT {m:M1} (ho:EvP C o) (he:EvP C e):EvP C (.m1 o m e):=by
 intro k md af S x env A ad aa s Q X U d hm h;dsimp only [E_m1] at h;refine acME hm ?_;intro x id apos xs pos hm;refine l1E hm ?_;intro y hm
 ·simp only [qae,qaq] at hm;refine ob36 hm ?_;clear hm;intro ee129;subst ee129;intro hline hb h1 h2;refine Call_method1 (zfx hb _) (zbf h2) hline (seqE (.refl d.r) (ho U d h1 h) fun y u ae ag q hu J st=>?_);refine lift fun g9 k9=>?_;refine ob2 (zat q) ?_;intro a vs ee130;subst ee130;intro ha q;cases hu.ref_of;refine ob16 (zkb st.rel ha) ?_;intro hT hdn
  apply k9
  clear k9 g9;have go:∀{id:String},id=m1Id m->wpAny C.M A (callWith pos (.builtin id) [.ref a] [(false,eval y env)] []) (PostV C aa s Q) (PostX C aa s X) ag:=fun {id} hid=>
   zpN (u:=.ref a) (v:=.none) (y:=.none) (Nat.lt_of_le_of_lt (Nat.add_le_add_left (by decide) _) (zgt d)) hid (seqE st (he U (d.step st) h2 q) fun z v ah ai q hv av st'=>⟨ah,v,Q,st'.rel,.ref,hv,q,fun z ai hz=>hz.from st'⟩) ⟨a,rfl⟩
  cases m with
  |append=>exact ⟨"list", "list.append",F.plainAttrs_list,F.slot_list_append,F.type_list_append,hT,hdn,go rfl⟩
  |other e=>exact e.elim
  |remove=>exact ⟨"list", "list.remove",F.plainAttrs_list,F.slot_list_remove,F.type_list_remove,hT,hdn,go rfl⟩
end
section
variable {C:Cx} {k:Nat} {md:Bool} {af:Calls} {S:Sc} {env:Env} {A:Around} {ad:Loc} {aa ac ae:Store} {s s' ag:Shared} {D:Addr->Prop}
theorem Step.old (x:Step C (fun a=>D a\/s.heap.objs.size<=a) aa s ac s'):Step C D aa s ac s':=
 ⟨⟨x.h.size,fun a o e n=>x.h.keep a o e fun d=>d.elim (fun z=>n (.inl z)) fun z=>z.elim (fun z=>n (.inr z)) fun z=>absurd (Heap.lt_size e) (Nat.not_lt.mpr z),x.h.tup⟩,x.rel,x.dom,x.fresh,x.gens,x.os⟩
structure Hold (C:Cx) (wr:List Addr) (aa:Store) (h:Heap):Prop where
 no:∀b∈wr,aa b=none/\C.base.get? b=none
 at_:∀b∈wr,∃o,h.get? b=some o/\¬IsT o/\∀es n,o.data≠.dict es n
theorem Step.wrote {wr:List Addr} {h':Heap} {t:Nat} (r:Rel C aa s.heap) (m:Hold C wr aa s.heap) (k:∀b o,b∉wr->s.heap.get? b=some o->h'.get? b=some o) (hs:s.heap.objs.size<=h'.objs.size) :
  Step C (· ∈ wr) aa s aa { s with heap:=h',toks:=t }:=by
 have tk:zaU s.heap h':=fun b o e ht=>k b o (fun hb=>by obtain ⟨o',e',nt,_⟩:=m.at_ b hb;rw [e] at e';cases e';exact nt ht) e
 refine ⟨⟨hs,fun a o e n=>.inl (k a o (fun hb=>n (.inr hb)) e),tk⟩,r.frame (fun a o q=>?_) tk (fun b o e=>k b o (fun hb=>?_) (r.stays b o e)) hs,fun J x=>x,fun J x=>.inl x,rfl,rfl⟩
 ·refine ob1 ((r.tr a o q).there) ?_;intro ob ho J;rw [ho];exact k a ob (fun hb=>by rw [(m.no a hb).1] at q;cases q) ho
 ·rw [(m.no b hb).2] at e;cases e
theorem AOk.low {k:Nat} (x:AOk C k md A aa s.heap):Low A s.heap.objs.size:=by
 refine lift fun g9 k9=>?_;obtain ⟨⟨l,hl,hf,hn⟩,_⟩:=x
 apply k9
 clear k9 g9;intro l' hl' L hL;rw [hl] at hl';cases hl';refine ob7 (hn L hL) ?_;intro J o J J ho J;exact Heap.lt_size ho
theorem Dyn.apart {n:Nat} (d:Dyn C k md S A env ad aa s) (y:Step C D aa s ac s') (low:Low A n) (hn:∀a,D a->n<=a) (hO:∀a,Own env a->¬D a):Dyn C k md S A env ad ac s':=
 ⟨d.a.keep y fun l hl L hL hd=>absurd (low l hl L hL) (Nat.not_lt.mpr (hn L hd)),y.rel,d.l.keep y hO,d.len⟩
theorem Hold.step {wr:List Addr} (m:Hold C wr aa s.heap) (y:Step C D aa s ac s') (hD:∀b∈wr,¬D b):Hold C wr ac s'.heap/\∀b∈wr,∀o,s.heap.get? b=some o->s'.heap.get? b=some o:=by
 have kp:∀b∈wr,∀o,s.heap.get? b=some o->s'.heap.get? b=some o:=fun b hb o e=>by
  refine ob6 (m.at_ b hb) ?_;intro o' e' J nd;rw [e] at e';cases e';exact (y.h.keep b o e fun q=>q.elim (fun z=>z (m.no b hb).1) (hD b hb)).plain nd
 refine ⟨⟨fun b hb=>?_,fun b hb=>?_⟩,kp⟩
 ·refine ob1 (m.at_ b hb) ?_;intro o' e' J;exact ⟨zcg y e' (m.no b hb).1,(m.no b hb).2⟩
 ·refine ob1 (m.at_ b hb) ?_;intro o' e' nd;exact ⟨o',kp b hb o' e',nd⟩
structure ItOk (C:Cx) (A:Around) (I:Addr) (wr:List Addr) (items:List V) (chk:Store->Prop) (St:Nat->Heap->Prop) (Mid:Nat->Value->Heap->Prop):Prop where
 at_:∀i h,St i h->∀b∈wr,∃o,h.get? b=some o/\¬IsT o/\∀es n,o.data≠.dict es n
 frame:∀i h h',St i h->zaU h h'->(∀b∈wr,∀o,h.get? b=some o->h'.get? b=some o)->St i h'
 item:∀i aa s (hi:i<items.length),St i s.heap->Rel C aa s.heap->chk aa->∀(Q:Option Value->Shared->Prop) (E:Value->Shared->Prop),
  (∀v h' tk,VR h' items[i] v->Mid i v h'->(∀b o,b∉wr->s.heap.get? b=some o->h'.get? b=some o)->Q (some v) { s with heap:=h',toks:=tk })->wpAny C.M A (pyNext (.ref I)) Q E s
 midAt:∀i v h,Mid i v h->∀b∈wr,∃o,h.get? b=some o/\¬IsT o/\∀es n,o.data≠.dict es n
 go:∀(tg:Expr) i v s (Q:Unit->Shared->Prop) (E:Value->Shared->Prop),Mid i v s.heap ->
  (∀h',St (i+1) h'->(∀b o,b∉wr->s.heap.get? b=some o->h'.get? b=some o)->Q () { s with heap:=h' })->wpAny C.M A (letOwnedTupleGo tg (.ref I) v) Q E s
 done:∀aa s,St items.length s.heap->Rel C aa s.heap->chk aa->∀(Q:Option Value->Shared->Prop) (E:Value->Shared->Prop),
  (∀h' tk,(∀b o,b∉wr->s.heap.get? b=some o->h'.get? b=some o)->Q none { s with heap:=h',toks:=tk })->wpAny C.M A (pyNext (.ref I)) Q E s
 self:∀i s (Q:Value->Shared->Prop) (E:Value->Shared->Prop),St i s.heap->Q (.ref I) s->wpAny C.M A (pyIter (.ref I)) Q E s
variable {I:Addr}
theorem zbM {o:Obj} {n:String} {tg:Expr} {v:Value} {Q:Unit->Shared->Prop} {E:Value->Shared->Prop} (ho:s.heap.get? I=some o) (hc:o.cls=.type n)
  (hn:(["enumerate", "zip", "dict_itemiterator", "dict_reverseitemiterator", "odict_iterator", "itertools.zip_longest", "itertools.pairwise"].contains n)=false) (h:Q () s):wpAny C.M A (letOwnedTupleGo tg (.ref I) v) Q E s:=by
 have body:wpAny C.M A (do
   let (.ref r,.ref a):=((Value.ref I),v) |return
   let o ←load r
   match o.cls,o.data with
   |.type n,.fields vs=>
    if ["enumerate", "zip", "dict_itemiterator", "dict_reverseitemiterator", "odict_iterator", "itertools.zip_longest", "itertools.pairwise"].contains n&&vs[0]?==some (rawInt a) then
     rule "for.unpacks-the-owned-tuple"
     updateField r 0 .none
   |_,_=>pure ()) Q E s:=by
  cases v with
  |ref a=>
   refine qaa (wpAny_load ho ?_);rw [hc];cases o.data with
   |fields vs=>
    show wpAny C.M A (if (_&&_)=true then _ else _) Q E s
    rw [hn,Bool.false_and];exact qab h
   |_=>exact qab h
  |_=>exact qab h
 cases tg<;>first |exact body |exact qab h
theorem zaE {o:Obj} {vs:Array Value} (h:o.data=.fields vs):¬IsT o/\∀es n,o.data≠.dict es n:=⟨fun ⟨_,_,_,q⟩=>(by rw [h] at q;cases q),fun es n q=>(by rw [h] at q;cases q)⟩
theorem ItOk.list {a:Addr} {vs:List V} (hh:A.handled=none) (hne:a≠I):ItOk C A I [I] vs (fun aa=>aa a=some (.list vs)) (fun i h=>h.IsListIter I a i) (fun i J h=>h.IsListIter I a (i+1)) where
 at_:=fun i h ⟨o,ho,hc,hd⟩ b hb=>by simp only [qah] at hb;subst hb;exact ⟨o,ho,zaE hd⟩
 frame:=fun i h h' hst J k=>hst.at fun o e=>k I (by simp) o e
 item:=fun i aa s hi hst r hc Q E h=>by
  refine ob2 (r.list hc) ?_;intro xs n hL hX J;have hi':i<xs.length:=hX.length▸hi;refine wpAny_pyNext_list_item hst hL.isList (x:=xs[i]) (by simp [hi']) fun h' hit hs=>?_
  have kk:∀b o,b∉[I]->s.heap.get? b=some o->h'.get? b=some o:=fun b o hb e=>(hs.2 b fun q=>hb (by simp [q])).trans e
  refine h _ h' s.toks ((hX.at i hi hi').keep fun b o e ht=>?_) hit kk;refine ob6 hst ?_;clear hst;intro oi hoi J hd;exact kk b o (fun q=>by simp only [qah] at q;subst q;rw [hoi] at e;cases e;exact (zaE hd).1 ht) e
 midAt:=fun i v h ⟨o,ho,hc,hd⟩ b hb=>by simp only [qah] at hb;subst hb;exact ⟨o,ho,zaE hd⟩
 go:=fun tg i v s Q E hm h=>by
  refine ob6 (id hm) ?_;intro o ho hc hd;exact zbM ho hc (by decide) (h s.heap hm fun J J J e=>e)
 done:=fun aa s hst r hc Q E h=>by
  refine ob2 (r.list hc) ?_;intro xs n hL hX J;refine wpAny_pyNext_list_end hh hst hL.isList (by simp [hX.length]) fun h' he=>h h' s.toks fun b o hb e=>he b o (fun q=>hb (by simp [q])) e
 self:=fun i s Q E hst h=>wpAny_pyIter_listiter hst h
theorem ItOk.tuple {a:Addr} {vs:List V} {xs:List Value} {n:Nat} (hh:A.handled=none) (hne:a≠I) :
  ItOk C A I [I] vs (fun J=>True) (fun i h=>h.IsTupleIter I a i/\h.get? a=some (seqObj "tuple" xs.toArray n)/\VRs h vs xs) (fun i J h=>h.IsTupleIter I a (i+1)/\h.get? a=some (seqObj "tuple" xs.toArray n)/\VRs h vs xs) where
 at_:=fun i h ⟨⟨o,ho,hc,hd⟩,_⟩ b hb=>by simp only [qah] at hb;subst hb;exact ⟨o,ho,zaE hd⟩
 frame:=fun i h h' ⟨h1,h2,h3⟩ tk k=>⟨h1.at fun o e=>k I (by simp) o e,tk _ _ h2 ⟨rfl,_,_,rfl⟩,h3.keep tk⟩
 item:=fun i aa s hi ⟨hst,hT,hX⟩ r _ Q E h=>by
  have hi':i<xs.length:=hX.length▸hi;refine wpAny_pyNext_tuple_item hst (zbw hT) (x:=xs[i]) (by simp [hi']) fun h' hit hs=>?_
  have kk:∀b o,b∉[I]->s.heap.get? b=some o->h'.get? b=some o:=fun b o hb e=>(hs.2 b fun q=>hb (by simp [q])).trans e
  have tk:zaU s.heap h':=fun b o e ht=>by
   refine ob6 hst ?_;clear hst;intro oi hoi J hd;exact kk b o (fun q=>by simp only [qah] at q;subst q;rw [hoi] at e;cases e;exact (zaE hd).1 ht) e
  exact h _ h' s.toks ((hX.at i hi hi').keep tk) ⟨hit,tk _ _ hT ⟨rfl,_,_,rfl⟩,hX.keep tk⟩ kk
 midAt:=fun i v h ⟨⟨o,ho,hc,hd⟩,_⟩ b hb=>by simp only [qah] at hb;subst hb;exact ⟨o,ho,zaE hd⟩
 go:=fun tg i v s Q E hm h=>by
  refine ob34 (id hm) ?_;intro o ho hc hd J;exact zbM ho hc (by decide) (h s.heap hm fun J J J e=>e)
 done:=fun aa s ⟨hst,hT,hX⟩ r _ Q E h=>by
  refine wpAny_pyNext_tuple_end hh hst (zbw hT) (by simp [hX.length]) fun h' he=>h h' s.toks fun b o hb e=>he b o (fun q=>hb (by simp [q])) e
 self:=fun i s Q E hst h=>wpAny_pyIter_tupleiter hst.1 h
set_option tactic.hygienic true in
theorem zlg {a b c:Int} {i:Nat} (h:i<((upto a b c).map V.int).length):((upto a b c).map V.int)[i]=V.int (a+i*c):=by
 simp only [qac] at h;unfold upto at h ⊢
 split at h
 ·rename_i hc;simp only [List.getElem_map,if_pos hc,List.getElem_range];rw [Int.mul_comm]
 ·simp at h
theorem ItOk.range {a b c:Int} {n:Nat} (hh:A.handled=none) (hn:(upto a b c).length=n) :
  ItOk C A I [I] ((upto a b c).map V.int) (fun J=>True) (fun i h=>IsRangeIter h I (a+(i:Nat)*c) ((n:Int)-(i:Nat)) c) (fun i J h=>IsRangeIter h I (a+(i+1:Nat)*c) ((n:Int)-(i+1:Nat)) c) where
 at_:=fun i h ho b hb=>by simp only [qah] at hb;subst hb;exact ⟨_,ho,zaE rfl⟩
 frame:=fun i h h' hst J k=>k I (by simp) _ hst
 item:=fun i aa s hi hst r hc Q E h=>by
  have hi':i<n:=by simp only [qac] at hi;lia
  refine wpAny_pyNext_range_item hst (by lia) fun h' hit hs=>?_
  have e1:a+((i+1:Nat):Int)*c=a+(i:Int)*c+c:=by push_cast;rw [Int.add_mul,Int.one_mul,Int.add_assoc]
  have e2:(n:Int)-((i+1:Nat):Int)=(n:Int)-(i:Int)-1:=by push_cast;lia
  refine h _ h' _ ?_ ?_ fun b o hb e=>(hs.2 b fun q=>hb (by simp [q])).trans e
  ·rw [zlg hi];exact .int
  ·rw [e1,e2];exact hit
 midAt:=fun i v h ho b hb=>by simp only [qah] at hb;subst hb;exact ⟨_,ho,zaE rfl⟩
 go:=fun tg i v s Q E hm h=>zbM hm rfl (by decide) (h s.heap hm fun J J J e=>e)
 done:=fun aa s hst r hc Q E h=>by
  simp only [qac,hn] at hst;exact wpAny_pyNext_range_end hh hst (by lia) fun h' he=>h h' s.toks fun b o hb e=>he b o (fun q=>hb (by simp [q])) e
 self:=fun i s Q E hst h=>wpAny_pyIter_rangeiter hst h
end
section
variable {C:Cx} {k:Nat} {md:Bool} {af:Calls} {S:Sc} {env:Env} {A:Around} {ad:Loc} {aa ac ae:Store} {s s' ag:Shared} {D:Addr->Prop} {X:XP}
def zmY (C:Cx) (A:Around) (e:Ex) (aa:Store) (s:Shared) (Q:List V->(Store->Prop)->Store->Prop):Value->Shared->Prop:=fun v ai=>
 ∃I wr items chk St Mid ae,v=.ref I/\ItOk C A I wr items chk St Mid/\St 0 ai.heap/\Hold C wr ae ai.heap/\(∀b∈wr,s.heap.objs.size<=b)/\Step C No aa s ae ai/\Q items chk ae
def ItP (C:Cx) (e:Ex):Prop:=∀ ⦃k:Nat⦄ ⦃md:Bool⦄ ⦃af:Calls⦄ ⦃S:Sc⦄ ⦃x:Expr⦄ ⦃env:Env⦄ ⦃A:Around⦄ ⦃ad:Loc⦄ ⦃aa:Store⦄ ⦃s:Shared⦄ ⦃Q:List V->(Store->Prop)->Store->Prop⦄ ⦃X:XP⦄,
 Sur C k md af S env->Dyn C k md S A env ad aa s->zal S e x=true->md=true->wpIt af md e ad aa Q X->wpAny C.M A (eval x env) (fun v ag=>wpAny C.M A (pyIter v) (zmY C A e aa s Q) (PostX C aa s X) ag) (PostX C aa s X) s
theorem ze8 {h:Heap} {o:Obj} (r:Rel C ae ag.heap) (hb:¬IsT o) (hd:∀es n,o.data≠.dict es n) (hf:o.isFreed=false) (ho:(ag.heap.push o).get? ag.heap.objs.size=some o):Hold C [ag.heap.objs.size] ae (ag.heap.push o):=
 ⟨fun b hb=>by simp only [qah] at hb;subst hb;exact ⟨r.none_of_ge (qal _),za6 r (qal _)⟩,fun b hb=>by simp only [qah] at hb;subst hb;exact ⟨o,ho,‹_›,hd⟩⟩
theorem zi7 {e:Ex} (he:EvP C e) (hw:∀af md ad aa Q X,wpIt af md e ad aa Q X=wpE af md e ad aa (fun u ae=>zb6 u ae fun items chk=>Q items chk ae) X):ItP C e:=by
 intro k md af S x env A ad aa s Q X U d hm hmd h;rw [hw] at h;refine seqE (.refl d.r) (he U d hm h) fun v u ae ag q hu J st=>?_;have hh:=d.a.handled hmd;unfold zb6 at q
 split at q
 ·refine ob10 hu.tup_of ?_;intro a xs n ee131;subst ee131;intro ha hX;refine wpAny_pyIter_tuple (zbw ha) ?_;refine ⟨_,[ag.heap.objs.size],_,_,_,_,ae,rfl,ItOk.tuple (a:=a) (xs:=xs) (n:=n) hh (Nat.ne_of_lt (Heap.lt_size ha)),⟨⟨_,qax _ rfl,rfl,rfl⟩,zad _ _ ha,hX.keep fun b o e J=>zad _ _ e⟩,
   ze8 (h:=ag.heap) st.rel (zaE rfl).1 (zaE rfl).2 rfl (qax _ rfl),fun b hb=>by simp only [qah] at hb;subst hb;exact st.h.size,st.trans (.grow (t:=ag.toks) st.rel zad zaA),q⟩
 ·refine ob2 (zat q) ?_;intro a vs e ha q;cases e;refine lift fun g9 k9=>?_;cases hu.ref_of;refine ob2 (st.rel.list ha) ?_;intro xs n hL hX J
  apply k9
  clear k9 g9;refine wpAny_pyIter_list hL.isList ?_;refine ⟨_,[ag.heap.objs.size],_,_,_,_,ae,rfl,ItOk.list hh (Nat.ne_of_lt (Heap.lt_size hL)),⟨_,qax _ rfl,rfl,rfl⟩,
   ze8 (h:=ag.heap) st.rel (zaE rfl).1 (zaE rfl).2 rfl (qax _ rfl),fun b hb=>by simp only [qah] at hb;subst hb;exact st.h.size,st.trans (.grow (t:=ag.toks) st.rel zad zaA),q⟩
 ·exact q.elim
set_option tactic.hygienic true in
theorem zlf (a b c:Int) (hc:0<c):Builtin.Range.rangeSize a b c=((upto a b c).length:Int):=by
 unfold Builtin.Range.rangeSize upto;rw [if_pos hc,if_pos hc];simp only [qac,List.length_range]
 split
 ·rename_i h;have e:(b-a+c-1)/c=(b-a-1)/c+1:=by
   rw [show b-a+c-1=(b-a-1)+c*1 by lia,Int.add_mul_ediv_left _ _ (by lia)]
  have:0<=(b-a-1)/c:=Int.ediv_nonneg (by lia) (by lia)
  rw [e];lia
 ·rename_i h;have:(b-a+c-1)/c<=0:=by
   have:=Int.ediv_lt_of_lt_mul hc (show b-a+c-1<1*c by lia)
   lia
  lia
theorem zef {i:Int} (h:-(2^40)<=i) (h':i<=2^40):Builtin.Range.rangeFitsLong i=true:=Bool.and_eq_true_iff.mpr ⟨qaf (Int.le_trans (by decide) h),qaf (Int.lt_of_le_of_lt h' (by decide))⟩
theorem zd1 {a b c:Int} (ha:a<2^31) (ha':-(2^31)<a) (hb:b<2^31) (hb':-(2^31)<b) (hc:0<c) (hc':c<2^31):Builtin.Range.small a b c=true:=by
 have hl:-(2^40)<=Builtin.Range.rangeSize a b c/\Builtin.Range.rangeSize a b c<=2^40:=by
  unfold Builtin.Range.rangeSize;rw [if_pos hc]
  by_cases z:a<b
  ·rw [if_pos z];have h0:0<=(b-a-1)/c:=Int.ediv_nonneg (by lia) (Int.le_of_lt hc)
   have h1:(b-a-1)/c<=b-a-1:=Int.ediv_le_self _ (by lia)
   exact ⟨by lia,by lia⟩
  ·rw [if_neg z];exact ⟨by decide,by decide⟩
 have ft:∀{i:Int},i<2^31->-(2^31)<i->Builtin.Range.rangeFitsLong i=true:=fun h h'=>zef (Int.le_trans (show -(2^40)<=(-(2^31):Int) by decide) (Int.le_of_lt h')) (Int.le_trans (Int.le_of_lt h) (show (2^31:Int)<=2^40 by decide))
 refine Bool.and_eq_true_iff.mpr ⟨Bool.and_eq_true_iff.mpr ⟨Bool.and_eq_true_iff.mpr ⟨Bool.and_eq_true_iff.mpr ⟨ft ha ha',ft hb hb'⟩,ft hc' (Int.lt_trans (by decide) hc)⟩,zef hl.1 hl.2⟩,?_⟩
 rw [if_pos hc,zef (by lia) (by lia),Bool.or_true]
variable {E:Value->Shared->Prop}
theorem zhU {e:Ex} {a b c:Int} {t u v:Tok} {r:Addr} {Q:List V->(Store->Prop)->Store->Prop} (hh:A.handled=none) (st:Step C No aa s ae ag) (hr:IsRange ag.heap r a b c t u v)
  (hc:0<c) (hs:Builtin.Range.small a b c=true) (q:Q ((upto a b c).map V.int) (fun J=>True) ae):wpAny C.M A (pyIter (.ref r)) (zmY C A e aa s Q) E ag:=by
 refine wpAny_pyIter_range hr hs ?_;refine ⟨_,[ag.heap.objs.size],_,_,_,_,ae,rfl,ItOk.range (a:=a) (b:=b) (c:=c) hh rfl,?_,
   ze8 (h:=ag.heap) st.rel (zaE rfl).1 (zaE rfl).2 rfl (qax _ rfl),fun b hb=>by simp only [qah] at hb;subst hb;exact st.h.size,st.trans (.grow (t:=ag.toks) st.rel zad zaA),q⟩
 show (ag.heap.push _).get? _=_;rw [zlf a b c hc,qax _ rfl];simp
theorem zkn {a:Ex} (ha:EvP C a):ItP C (.range1 a):=by
 intro k md af S x env A ad aa s Q X U d hm hmd h;dsimp only [I_r1,I_r2,I_r3,zk0,zmz,zgG,zmZ,zgF,zk2] at h;refine ncME hm ?_;intro id np xs pos hm;refine l1E hm ?_;intro x hm
 ·simp only [qae] at hm;refine Call_Name rfl (zcr (v:=.type "range") U d.r hm.1 (qav (i:=12) rfl) (zjT hm.2 (seqE (.refl d.r) (ha U d hm.2 h) fun v u ae ag q hu J st=>?_)));refine ob24 (zaM q) ?_;intro i ee132;subst ee132;intro h1 h2 q;refine ob14 hu.int_of ?_;intro t ee133;subst ee133;exact call_range_1 (zhU (ag:={ ag with heap:=_,toks:=_ }) (d.a.handled hmd) (st.trans (.grow st.rel zad zaA)) (IsRange.new ..) (by decide) (zd1 (by lia) (by lia) h1 h2 (by lia) (by lia)) q)
theorem znp {id:String} {x y z:Expr} {e e' e'':Ex} {pos:Pos} {K:Value->Shared->Prop} (hm:zal S e x=true) (hm':zal S e' y=true) (hm'':zal S e'' z=true)
  (h:wpAny C.M A (eval x env) (fun v ag=>wpAny C.M A (eval y env) (fun u ai=>wpAny C.M A (eval z env) (fun w az=>wpAny C.M A (call (.type id) [v,u,w]) K E az) E ai) E ag) E s) :
  wpAny C.M A (callWith pos (.type id) [] (backTo pos (starEach [x,y,z] env)) []) K E s:=by
 rw [zbf hm,zbf hm',zbf hm''];exact PySem.callWith_type (by rfl) (evalArgs_plain (spliced_cons (wpAny_mono h (fun v ag ao=>spliced_cons (wpAny_mono ao (fun u ai aB=>spliced_cons (wpAny_mono aB (fun w az aA=>spliced_nil aA) fun J J e=>e)) fun J J e=>e)) fun J J e=>e)))
theorem zkm {a b c:Ex} (ha:EvP C a) (hb:EvP C b) (hc:EvP C c):ItP C (.range3 a b c):=by
 intro k md af S x env A ad aa s Q X U d hm hmd h;dsimp only [I_r1,I_r2,I_r3,zk0,zmz,zgG,zmZ,zgF,zk2] at h;refine ncME hm ?_;intro id np xs pos hm;refine l3E hm ?_;intro x y z hm
 ·simp only [qae] at hm;refine ob41 hm ?_;clear hm;intro h0 h1 h2 h3;refine Call_Name rfl (zcr (v:=.type "range") U d.r h0 (qav (i:=12) rfl) (znp h1 h2 h3 (seqE (.refl d.r) (ha U d h1 h) fun x u ae ag q hu J st=>seqE st (hb U (d.step st) h2 q) fun y v ah ai q hv av st'=>
   seqE st' (hc U (d.step st') h3 q) fun z w aq az q hw aC st''=>?_)))
  refine lift fun g9 k9=>?_;refine ob1 (zaM q) ?_;intro i ee134;subst ee134;intro q1;refine ob1 (zaM q1) ?_;intro j ee135;subst ee135;intro q2;refine ob42 (zaM q2) ?_;intro l ee136;subst ee136;intro h3 h4 h5 h6 h7 h8 q3;refine ob14 hu.int_of ?_;intro t ee137;subst ee137;refine ob14 hv.int_of ?_;intro t' ee138;subst ee138;refine ob14 hw.int_of ?_;intro t'' ee139;subst ee139
  apply k9
  clear k9 g9;refine call_range_3 (by lia) (zhU (ag:={ az with heap:=_,toks:=_ }) (d.a.handled hmd) (st''.trans (.grow st''.rel zad zaA)) (IsRange.new ..) h7 (zd1 h5 h6 h3 h4 h7 (by lia)) q3) (.inl (PyProof.noPylong_small (by lia)))
theorem Dyn.own {ak:Loc} {P:Addr->Prop} (d:Dyn C k md S A env ad aa s) (st:Step C P aa s ac s') (hP:∀a,P a->Own env a) (l:LR C ac s'.heap env S.nm ak) (hl:ak.length=ad.length):Dyn C k md S A env ak ac s':=
 ⟨d.a.keep st fun fl hfl L hL hp=>(by
  rcases hP L hp with rfl |⟨n,hc⟩
  ·refine ob11 l.locals ?_;intro m o es ep ho hd J;exact ⟨o,es,ep,ho,hd⟩
  ·exfalso
   refine ob13 (d.l.cells n L hc) ?_;intro v o ho hd J;refine ob6 d.a.frames ?_;intro fl' hfl' J hn;rw [hfl] at hfl';cases hfl';refine ob7 (hn L hL) ?_;intro J o' es n' ho' hd';rw [ho] at ho';cases ho';rw [hd] at hd';cases hd'),st.rel,l,hl.trans d.len⟩
variable {Q:Unit->Shared->Prop}
theorem zci {id:Str} {i:Nat} {v:V} {x:Value} (U:Sur C k md af S env) (d:Dyn C k md S A env ad aa s) (hm:S.own id i=true) (hv:VR s.heap v x)
  (h:∀s',Step C (OwnAt env id) aa s aa s'->Dyn C k md S A env (ad.set i (some v)) aa s'->Q () s'):wpAny C.M A (storeName env id x) Q E s:=by
 refine ob6 (Sc.own_elim hm) ?_;intro n ee140;subst ee140;intro hn hk;refine zlq U.ev.toEnvOk d.r d.l hn U.ev.nm d.len (by rw [U.ev.kindOf];exact hk) (fun hc=>U.ev.cells _ (.inl (by rw [←U.ev.kindOf];exact hc))) hv fun s' st l=>h s' st (d.own st (fun J q=>q.own) l (by simp))
set_option tactic.hygienic true in
theorem zhw {P:Addr->Prop} (U:Sur C k md af S env) (is:List Nat):(∀id i,S.own id i=true->i∈is->∀a,OwnAt env id a->P a)->∀(elts:List Expr) (vs:List V) (xs:List Value) (ad:Loc) (s:Shared),zfb S is elts=true->is.length=vs.length->VRs s.heap vs xs ->
  Dyn C k md S A env ad aa s->(∀s',Step C P aa s aa s'->Dyn C k md S A env ((is.zip vs).foldl (fun r p=>r.set p.1 (some p.2)) ad) aa s'->Q () s')->wpAny C.M A (assignInOrder ((assignEach elts env).map (·.2)) xs) Q E s:=by
 induction is with
 |nil=>
  intro hP elts vs xs ad s hm hl hv d h;cases elts with
  |nil=>exact qab (h s (.refl d.r) (by simpa using d))
  |cons _ _=>exact absurd hm qan
 |cons i is ih=>
  intro hP elts vs xs ad s hm hl hv d h;refine lcE hm ?_;intro e elts hm;refine nmME hm ?_;intro id p hm;simp only [qae] at hm;cases hv with
  |nil=>cases hl
  |cons hv r=>
   rename_i v vs x xs;show wpAny C.M A (do holding xs (assign (.Name id p) env x);assignInOrder ((assignEach elts env).map (·.2)) xs) Q E s
   refine qaa (wpAny_holding (wpAny_assign_Name (zci U d hm.1 hv fun s' st d'=>?_)));exact ih (fun id i hi hm=>hP id i hi (qag _ hm)) elts vs xs _ s' hm.2 (Nat.succ.inj hl) (st.vrs r) d' fun s'' st' d''=>h s'' ((st.mono (hP id i hm.1 qaj)).trans st') d''
theorem zif:∀{is:List Nat} {elts:List Expr},zfb S is elts=true->(assignEach elts env).length=is.length/\(assignEach elts env).findIdx? (·.1)=none
 | [],elts,h=>by
  cases elts with
  |nil=>exact ⟨rfl,rfl⟩
  |cons _ _=>exact absurd h qan
 |i::is,elts,h=>by
  refine lcE h ?_;intro x r h;refine nmME h ?_;intro id p h;simp only [qae] at h;have hr:=zif (is:=is) h.2;have e:assignEach (.Name id p::r) env=(false,assign (.Name id p) env)::assignEach r env:=rfl;rw [e];exact ⟨by simp [hr.1],by rw [List.findIdx?_cons];simp [hr.2]⟩
set_option tactic.hygienic true in
theorem zer {P:Addr->Prop} {t:Tg} {tg:Expr} {v:V} {x:Value} {ak:Loc} (U:Sur C k md af S env) (d:Dyn C k md S A env ad aa s) (hm:zd5 S t tg=true) (hv:VR s.heap v x) (hb:zay t v ad=some ak)
  (hh:tgOk md t) (hP:∀id i,S.own id i=true->i∈tgOf t->∀a,OwnAt env id a->P a) (h:∀s',Step C P aa s aa s'->Dyn C k md S A env ak aa s'->Q () s'):wpAny C.M A (assign tg env x) Q E s:=by
 cases t with
 |one i=>
  refine nmME hm ?_;intro id p hm;cases hb;exact wpAny_assign_Name (zci U d hm hv fun s' st d'=>h s' (st.mono (hP _ _ hm (by simp [tgOf]))) d')
 |many is=>
  refine tuME hm ?_;intro xs kk p hm;simp only [qae] at hm;cases v with
  |tup vs=>
   dsimp only [zay] at hb
   split at hb
   ·rename_i hlen;cases hb;refine ob10 hv.tup_of ?_;intro a ys n ee141;subst ee141;intro ha hY;have hE:=zif (env:=env) hm.1;rw [arm_assign_Tuple];refine qaa (wpAny_standAt ?_);unfold unpack;have e:=hY.length;rw [hE.1,hE.2,show is.length=ys.toArray.size by rw [List.size_toArray,hlen,e]]
    refine qaa (wpAny_holding (zav (wpAny_unpackItems_tuple (d.a.handled hh) (zbw ha) fun h' hx hsz=>?_)));have st:Step C No aa s aa { s with heap:=h' }:=.grow (t:=s.toks) d.r (fun b o e=>hx b o (Nat.ne_of_lt (Heap.lt_size e)) e) hsz;exact zhw U is hP _ _ _ _ _ hm.1 hlen (st.vrs hY) (d.step st) fun s' st' d'=>h s' (st.no.trans st') d'
   ·cases hb
  |_=>cases hb
end
def zp4 (C:Cx) (aa:Store) (s:Shared) (Q:Bool->Store->Prop):Bool->Shared->Prop:=fun b s'=>∃ac,Q b ac/\Step C No aa s ac s'
def CoP (C:Cx) (o:ExO):Prop:=∀ ⦃k:Nat⦄ ⦃md:Bool⦄ ⦃af:Calls⦄ ⦃S:Sc⦄ ⦃ifs:List Expr⦄ ⦃env:Env⦄ ⦃A:Around⦄ ⦃ad:Loc⦄ ⦃aa:Store⦄ ⦃s:Shared⦄ ⦃Q:Bool->Store->Prop⦄ ⦃X:XP⦄,
 Sur C k md af S env->Dyn C k md S A env ad aa s->zc8 S o ifs=true->wpC af md o ad aa Q X ->
  wpAny C.M A (forIn ifs true fun c r=>if r=true then do let ok ←isTrue c env (eval c env);pure (ForInStep.yield ok) else pure (ForInStep.yield r)) (zp4 C aa s Q) (PostX C aa s X) s
section
variable {C:Cx} {k:Nat} {md:Bool} {af:Calls} {S:Sc} {env:Env} {A:Around} {ad:Loc} {aa ac ae:Store} {s s' ag:Shared} {D:Addr->Prop} {X:XP}
theorem co_none:CoP C .none:=by
 intro k md af S ifs env A ad aa s Q X U d hm h;cases ifs with
 |nil=>simp only [zgM,zgL] at h;exact wpAny_tests_nil ⟨aa,h,.refl d.r⟩
 |cons _ _=>simp [zlV,zlW,zlS,zlU,zlT] at hm
variable {e:Ex}
theorem zoi (he:TrP C e):CoP C (.some e):=by
 intro k md af S ifs env A ad aa s Q X U d hm h;cases ifs with
 |nil=>simp [zlV,zlW,zlS,zlU,zlT] at hm
 |cons x r=>
  cases r with
  |cons _ _=>simp [zlV,zlW,zlS,zlU,zlT] at hm
  |nil=>
   simp only [zlV,zlW,zlS,zlU,zlT] at hm;simp only [zgM,zgL] at h;refine wpAny_tests_one (seqB (.refl d.r) (he U d hm h fun V ac q=>?_) fun b V ae ag q hb J st=>?_)
   ·refine ob1 (zai q) ?_;intro b hb J;exact ⟨b,hb⟩
   ·refine ob1 (zai q) ?_;intro b' hb' q;rw [hb] at hb';cases hb';exact ⟨ae,q,st⟩
theorem Step.adopt {a:Addr} {o:AO} (x:Step C D aa s ac s') (ha:s.heap.objs.size<=a) (hn:ac a=none) (hO:OR C.cls C.prog C.w s'.heap a o) (hb:C.base.objs.size<=a):Step C D aa s (ac.upd a o) s':=by
 refine ⟨x.h,⟨x.rel.stays,fun b ob q=>?_,fun b ob q=>?_,x.rel.size⟩,fun b n=>?_,fun b n=>?_,x.gens,x.os⟩
 ·by_cases e:b=a
  ·subst e;rw [zcy] at q;cases q;exact hO
  ·rw [zbr e] at q;exact x.rel.tr b ob q
 ·by_cases e:b=a
  ·subst e;exact .inl hb
  ·rw [zbr e] at q;exact x.rel.new b ob q
 ·by_cases e:b=a
  ·subst e;rw [zcy];simp
  ·rw [zbr e];exact x.dom b n
 ·by_cases e:b=a
  ·subst e;exact .inr ha
  ·rw [zbr e] at n;exact x.fresh b n
variable {ifs:List Expr} {scope:Scope} {pos:Pos}
theorem zfo {elt target iter:Expr} {it acc:Value} {R:Result->Shared->Prop} (I:Nat->Shared->Prop)
  (turn:∀n s,I n s->wpAny C.M A (pyNext it) (fun r ag=>match r with
   |none=>R (.ok .next) ag
   |some v=>wpAny C.M A (letOwnedTupleGo target it v) (fun J ag=>wpAny C.M A (assign target env v) (fun J ai=>
     wpAny C.M A (forIn ifs true fun c r=>if r=true then do let ok ←isTrue c env (eval c env);pure (ForInStep.yield ok) else pure (ForInStep.yield r)) (fun ok az=>
      if ok=true then wpAny C.M A (eval elt env) (fun x aP=>wpAny C.M A (call (.builtin "list.append") [acc,x]) (fun J aT=>∃m,m<n/\I m aT) (fun J J=>False) aP) (fun J J=>False) az
      else ∃m,m<n/\I m az) (fun J J=>False) ai) (fun J J=>False) ag) (fun J J=>False) ag) (fun J J=>False) s)
  (n:Nat) (h:I n s):codeAny C.M A (.compLoop (.ListComp elt [⟨target,iter,ifs,0⟩] scope pos) 0 it acc env) R s:=by
 refine codeAny_loop rfl I (fun n s hI=>?_) n h;show wpAny _ A ((compTurn (.ListComp elt [⟨target,iter,ifs,0⟩] scope pos) 0 it acc env).onRaise (fun x=>do noteFrame x env;theTreesLotGoes x)) _ _ s
 refine wpAny_noted ?_;rw [compTurn_list];refine qaa (wpAny_standAt (qaa (wpAny_mono (turn n s hI) (fun r ag ao=>?_) fun J J h'=>h'.elim)));cases r with
 |none=>exact qab ao
 |some v=>
  refine qaa (wpAny_mono ao (fun J ag ao=>?_) fun J J h'=>h'.elim);refine qaa (wpAny_mono ao (fun J ai aB=>qaa (wpAny_mono aB (fun ok az aA=>?_) fun J J h'=>h'.elim)) fun J J h'=>h'.elim);cases ok with
  |false=>exact qab ⟨rfl,aA⟩
  |true=>
   exact qaa (qaa (wpAny_mono aA (fun x aP aN=>qaa (wpAny_mono aN (fun J aT bi=>qab (qab ⟨rfl,bi⟩)) fun J J h'=>h'.elim)) fun J J h'=>h'.elim))
structure CInv (C:Cx) (k:Nat) (md:Bool) (S:Sc) (A:Around) (cenv:Env) (ad:Loc) (wr:List Addr) (acc:Addr) (St:Nat->Heap->Prop) (aa:Store) (s:Shared) (i:Nat) (vs:List V) (ac:Store) (s':Shared):Prop where
 st:St i s'.heap
 hold:Hold C wr ac s'.heap
 obj:∃xs n,IsL s'.heap acc xs.toArray n/\VRs s'.heap vs xs
 len:vs.length<=zao
 accN:ac acc=none
 step:Step C (fun a=>s.heap.objs.size<=a) aa s ac s'
 dyn:Dyn C k md S A cenv ad ac s'
variable {wr:List Addr} {acc I:Addr} {St:Nat->Heap->Prop} {i:Nat} {items:List V} {chk:Store->Prop} {Mid:Nat->Value->Heap->Prop}
theorem CInv.no {cenv:Env} {vs:List V} {ah:Store} {ai:Shared} {ak:Loc}
  (W:ItOk C A I wr items chk St Mid) (v:CInv C k md S A cenv ad wr acc St aa s i vs ae ag) (y:Step C D ae ag ah ai) (hw:∀b∈wr,¬D b) (ha:¬D acc) (hD:∀a,D a->s.heap.objs.size<=a) (d:Dyn C k md S A cenv ak ah ai) :
  CInv C k md S A cenv ak wr acc St aa s i vs ah ai:=by
 refine ob16 (v.hold.step y hw) ?_;intro h1 h2;refine ob22 v.obj ?_;intro xs n hL hX;have hL':IsL ai.heap acc xs.toArray n:=(y.h.keep acc _ hL fun q=>q.elim (fun z=>z v.accN) ha).plain (fun es m q=>by cases q)
 exact ⟨W.frame i _ _ v.st y.h.tup h2,h1,⟨xs,n,hL',y.vrs hX⟩,v.len,zcg y hL v.accN,v.step.trans (y.mono hD),d⟩
variable {tg:Expr} {E:Value->Shared->Prop}
theorem ItOk.next {K:Option Value->Shared->Prop} 
  (W:ItOk C A I wr items chk St Mid) (hi:i<items.length) (hst:St i s.heap) (r:Rel C aa s.heap) (m:Hold C wr aa s.heap) (hc:chk aa) 
  (h:∀v ag,(∀(Q':Unit->Shared->Prop) (E':Value->Shared->Prop),(∀ai,VR ai.heap items[i] v->Step C (· ∈ wr) aa s aa ai->St (i+1) ai.heap->Hold C wr aa ai.heap->Q' () ai)->wpAny C.M A (letOwnedTupleGo tg (.ref I) v) Q' E' ag)->K (some v) ag) :
  wpAny C.M A (pyNext (.ref I)) K E s:=by
 refine zav (W.item i aa s hi hst r hc _ _ fun v h' tk hv hmid kk hsz=>h v _ fun Q' E' hQ=>?_);have st1:Step C (· ∈ wr) aa s aa { s with heap:=h',toks:=tk }:=.wrote r m kk hsz;refine zav (W.go tg i v _ _ _ hmid fun h'' hst' kk' hsz'=>?_);have m1:Hold C wr aa h':=⟨m.no,W.midAt i v h' hmid⟩;have st2:Step C (· ∈ wr) aa { s with heap:=h',toks:=tk } aa { s with heap:=h'',toks:=tk }:=.wrote (t:=tk) st1.rel m1 kk' hsz';exact hQ _ (st2.vr hv) (st1.trans st2) hst' ⟨m.no,W.at_ _ _ hst'⟩
theorem ItOk.stop {K:Option Value->Shared->Prop} 
  (W:ItOk C A I wr items chk St Mid) (hst:St items.length s.heap) (r:Rel C aa s.heap) (m:Hold C wr aa s.heap) (hc:chk aa) (h:∀ag,Step C (· ∈ wr) aa s aa ag->K none ag):wpAny C.M A (pyNext (.ref I)) K E s:=
 zav (W.done aa s hst r hc _ _ fun h' tk kk hsz=>h _ (.wrote r m kk hsz))
theorem zjn {xs:List Value} {n:Nat} {x:Value} {K:Value->Shared->Prop} (r:Rel C aa s.heap) (hn:aa acc=none) (hb:C.base.get? acc=none) (hL:IsL s.heap acc xs.toArray n) (hz:xs.length<=zao)
  (h:∀s',Step C (· = acc) aa s aa s'->(∃n',IsL s'.heap acc (xs++[x]).toArray n')->K .none s'):wpAny C.M A (call (.builtin "list.append") [.ref acc,x]) K E s:=by
 refine call_meets F.slot_list_append ⟨_,hL,rfl⟩ F.entry_list_append (F.args_list_append_2 _ _) (list_append acc xs.toArray n x (by simp only [List.size_toArray];exact zch hz)) ⟨hL,?_⟩
 refine h _ (Step.oneBut (t:=s.toks) r ⟨Heap.size_update ..,fun b hb=>Heap.get?_update_other _ _ (Ne.symm hb)⟩ hn hb rfl hL (fun q=>by have:=q.1;injection this with this;exact absurd this (by decide))) ?_
 have:=hL.update (·.push x);refine ⟨if (xs.toArray.push x).size==xs.toArray.size then n else n+1,?_⟩
 rw [show (xs++[x]).toArray=xs.toArray.push x by simp]
 exact this
theorem zfU {i:Nat} {v:Option V}:∀{is:List Nat} {ws:List V} {ad:Loc},i∉is->((is.zip ws).foldl (fun r p=>r.set p.1 (some p.2)) ad).set i v=(is.zip ws).foldl (fun r p=>r.set p.1 (some p.2)) (ad.set i v)
 | [],_,_,_=>by simp
 |_::_,[],_,_=>by simp
 |j::is,w::ws,ad,h=>by
  simp only [qad,not_or] at h;simp only [List.zip_cons_cons,List.foldl_cons];rw [zfU h.2,List.set_comm _ _ (Ne.symm h.1)]
theorem zeD:∀{is:List Nat} {vs ws:List V} {ad:Loc},is.Nodup->is.length=vs.length->(is.zip vs).foldl (fun r p=>r.set p.1 (some p.2)) ((is.zip ws).foldl (fun r p=>r.set p.1 (some p.2)) ad)=(is.zip vs).foldl (fun r p=>r.set p.1 (some p.2)) ad
 | [],_,_,_,_,_=>by simp
 |_::_,[],_,_,_,h=>by simp at h
 |_::_,_::_,[],_,_,_=>by simp
 |i::is,v::vs,w::ws,ad,hn,hl=>by
  simp only [qar] at hn;simp only [List.zip_cons_cons,List.foldl_cons];rw [zfU hn.1,List.set_set,zeD hn.2 (by simpa using hl)]
variable {t:Tg}
set_option tactic.hygienic true in
theorem zjk {v w:V} {ad ak aE:Loc} (hn:(tgOf t).Nodup) (h:zay t w ad=some ak) (h':zay t v ad=some aE):zay t v ak=some aE:=by
 cases t with
 |one i=>
  simp only [zay,Option.some.injEq] at h h' ⊢;subst h;subst h';rw [List.set_set]
 |many is=>
  cases v with
  |tup vs=>
   cases w with
   |tup ws=>
    simp only [zay] at h h' ⊢
    split at h
    ·split at h'
     ·cases h;cases h';rename_i h1 h2;rw [if_pos h2,zeD (is:=is) hn h2]
     ·cases h'
    ·cases h
   |_=>simp [zay] at h
  |_=>simp [zay] at h'
def cB (af:Calls) (md:Bool) (t:Tg) (ad:Loc) (cond:ExO) (elt:Ex):V->Store->(Option V->Store->Prop)->Prop:=
 fun v ah K=>zam (zay t v ad) fun ak=>wpC af md cond ak ah (fun b aq=>if b then wpE af md elt ak aq (fun x aF=>K (some x) aF) noX else K none aq) noX
variable {elt:Ex} {cond:ExO}
theorem zjg {cenv:Env} {S':Sc} {t:Tg} {x y:Expr} 
  {Q:V->Store->Prop} {R:Result->Shared->Prop} (W:ItOk C A I wr items chk St Mid) (U:Sur C k md af S' cenv) (helt:EvP C elt) (hcond:CoP C cond) (hT:zd5 S' t tg=true) (hE:zal S' elt x=true) (hC:zc8 S' cond ifs=true)
  (hmd:md=true)  (hP:∀id i,S'.own id i=true->i∈tgOf t->∀a,OwnAt cenv id a->a=cenv.locals) (hnd:(tgOf t).Nodup)
  (hwr:∀b∈wr,s.heap.objs.size<=b/\¬Own cenv b/\b≠acc) (hacc:s.heap.objs.size<=acc/\¬Own cenv acc) (hbacc:C.base.get? acc=none) (hloc:s.heap.objs.size<=cenv.locals) (low:Low A s.heap.objs.size)
  (hR:∀vs ac s',(∃i aI,CInv C k md S' A cenv aI wr acc St aa s i vs ac s')->Mine.Internal.alloc ac (.list vs) Q->∀s'',Step C (· ∈ wr) ac s' ac s''->R (.ok .next) s'') {vs:List V} {ae:Store} {ag:Shared} {aI:Loc} (hbind:∀v aE,zay t v ad=some aE->zay t v aI=some aE)
  (inv:CInv C k md S' A cenv aI wr acc St aa s i vs ae ag) (hi:i<=items.length)
  (h:zbR chk (cB af md t ad cond elt) Q (items.drop i) vs ae) :
  codeAny C.M A (.compLoop (.ListComp x [⟨tg,y,ifs,0⟩] scope pos) 0 (.ref I) (.ref acc) cenv) R ag:=by
 refine zfo (fun n s'=>∃i vs ac aI,(∀v aE,zay t v ad=some aE->zay t v aI=some aE)/\CInv C k md S' A cenv aI wr acc St aa s i vs ac s'/\i<=items.length/\n=items.length-i /\
  zbR chk (cB af md t ad cond elt) Q (items.drop i) vs ac) ?_ (items.length-i) ⟨i,vs,ae,aI,hbind,inv,hi,rfl,h⟩
 clear h hi inv hbind;intro n s' zz6;refine ob43 zz6 ?_;clear zz6;intro i vs ac aI hbind inv hi ee142;subst ee142;intro h
 by_cases hlt:i<items.length
 ·rw [List.drop_eq_getElem_cons hlt] at h;refine ob19 h ?_;clear h;intro hc hlen h;refine ob1 (zai h) ?_;intro ak hb h;refine W.next hlt inv.st inv.dyn.r inv.hold hc fun v ag hgo=>hgo _ _ fun ai hv st hst' hold'=>?_;have hOwr:∀a,Own cenv a->¬a∈wr:=fun a ha hb=>(hwr a hb).2.1 ha;have d2:Dyn C k md S' A cenv aI ac ai:=inv.dyn.apart (n:=s.heap.objs.size) st low (fun a ha=>(hwr a ha).1) hOwr;refine ob22 inv.obj ?_;intro xs n hL hX;have hL2:IsL ai.heap acc xs.toArray n:=(st.h.keep acc _ hL fun q=>q.elim (fun z=>z inv.accN) fun z=>(hwr acc z).2.2 rfl).plain (fun es m q=>by cases q)
  have inv2:CInv C k md S' A cenv aI wr acc St aa s (i+1) vs ac ai:=⟨hst',hold',⟨xs,n,hL2,st.vrs hX⟩,inv.len,zcg st hL inv.accN,inv.step.trans (st.mono fun a ha=>(hwr a ha).1),d2⟩;refine zer (P:=fun a=>a=cenv.locals) U d2 hT hv (hbind _ _ hb) (by cases t<;>first |rfl |exact hmd) hP fun az st3 d3=>?_
  have locO:Own cenv cenv.locals:=.inl rfl;have inv3:CInv C k md S' A cenv ak wr acc St aa s (i+1) vs ac az:=inv2.no W st3 (fun b hb q=>(hwr b hb).2.1 (q▸locO)) (fun q=>hacc.2 (q▸locO)) (fun a q=>q▸hloc) d3;refine wpAny_mono (hcond U d3 hC h) (fun b aP aN=>?_) fun J J hx=>(by obtain ⟨_,_,_,_,f,_⟩:=hx;exact f)
  refine ob1 aN ?_;clear aN;intro aF h st4;have inv4:=inv3.no W st4 (fun J J f=>f) (fun f=>f) (fun J f=>f.elim) (d3.step st4);have hb':=hbind _ _ hb;have hbn:∀v aE,zay t v ad=some aE->zay t v ak=some aE:=fun v aE hv=>zjk hnd hb hv;cases b with
  |false=>exact ⟨items.length-(i+1),by lia,i+1,vs,aF,ak,hbn,inv4,hlt,rfl,h⟩
  |true=>
   refine wpAny_mono (helt U (d3.step st4) hE h) (fun y aT bi=>?_) fun J J hx=>(by obtain ⟨_,_,_,_,f,_⟩:=hx;exact f)
   refine ob2 bi ?_;clear bi;intro V bK h hv5 st5;have inv5:=inv4.no W st5 (fun J J f=>f) (fun f=>f) (fun J f=>f.elim) ((d3.step st4).step st5);refine ob22 inv5.obj ?_;intro xs5 n5 hL5 hX5;have e5:=hX5.length;refine zjn inv5.dyn.r inv5.accN hbacc hL5 (by have:=inv5.len;lia) fun s₆ st6 hL6=>?_
   refine ob14 hL6 ?_;clear hL6;intro n6 hL6;refine ob16 (inv5.hold.step st6 fun b hb q=>(hwr b hb).2.2 q) ?_;intro hold6 kp6;have d6:Dyn C k md S' A cenv ak bK s₆:=inv5.dyn.apart (n:=s.heap.objs.size) st6 low (fun a ha=>ha▸hacc.1) fun a ha q=>hacc.2 (q▸ha);refine ⟨items.length-(i+1),by lia,i+1,vs++[V],bK,ak,hbn,⟨W.frame _ _ _ inv5.st st6.h.tup kp6,hold6,⟨xs5++[y],n6,hL6,(st6.vrs hX5).append (.cons (st6.vr hv5) .nil)⟩,?_,inv5.accN,inv5.step.trans (st6.mono fun a ha=>ha▸hacc.1),d6⟩,hlt,rfl,h⟩
   simp only [qat,List.length_cons,List.length_nil];lia
 ·have hi':i=items.length:=by lia
  subst hi';rw [List.drop_length] at h;exact W.stop inv.st inv.dyn.r inv.hold h.1 fun ag st=>hR vs ac s' ⟨_,_,inv⟩ h.2 ag st
/- a comprehension's block -/
noncomputable def clOf (env:Env) (names:List (Str×NameKind)):List (Str×Addr):=((names.filter fun x=>x.2==.free).map fun x=>(x.1,(env.cells.lookup x.1).getD 0)).reverse
theorem zeZ (f:Str×NameKind->List (Str×Addr)->Sem (ForInStep (List (Str×Addr))))
  (hf:∀name kind cs,f (name,kind) cs=if kind==.free then (do let a ←cellOf env name;pure (.yield ((name,a)::cs))) else pure (.yield cs)) :
  ∀(names:List (Str×NameKind)) (acc:List (Str×Addr)),(∀x∈names,x.2=.free->(env.cells.lookup x.1).isSome=true)->forIn names acc f=(pure (clOf env names++acc):Sem _)
 | [],acc,_=>rfl
 |(n,kd)::r,acc,h=>by
  rw [List.forIn_cons,hf];have ih:=fun acc=>zeZ f hf r acc fun x hx=>h x (qag _ hx)
  by_cases hk:kd=.free
  ·subst hk;refine ob14 (Option.isSome_iff_exists.mp (h (n,.free) qaj rfl)) ?_;intro c hc;have e:cellOf env n=pure c:=by unfold cellOf;rw [hc]
   rw [if_pos (by rfl),e]
   show forIn r ((n,c)::acc) f=_;rw [ih];simp [clOf,hc]
  ·rw [if_neg (by simpa using hk)]
   show forIn r acc f=_;rw [ih];have:(kd==NameKind.free)=false:=by simpa using hk
   simp [clOf,this]
theorem zji (h:∀x∈scope.names,x.2=.free->(env.cells.lookup x.1).isSome=true):closureFor scope env=pure (clOf env scope.names):=by
 have key:forIn scope.names [] (fun (x:Str×NameKind) (cs:List (Str×Addr))=>match x with
   |(name,kind)=>if (kind==NameKind.free)=true then (do let a ←cellOf env name;pure (ForInStep.yield ((name,a)::cs))) else pure (ForInStep.yield cs))=(pure (clOf env scope.names++[]):Sem _):=
  zeZ _ (fun J J J=>rfl) scope.names [] h
 rw [List.append_nil] at key;unfold closureFor;exact congrArg (fun m:Sem (List (Str×Addr))=>m >>= fun cs=>pure cs) key
theorem zf8 {α:Type} (f:Str->α):∀(l:List Str) (n:Str),(l.map fun x=>(x,f x)).lookup n=if n∈l then some (f n) else none
 | [],n=>by simp
 |m::l,n=>by
  rw [List.map_cons,List.lookup_cons]
  by_cases h:n=m
  ·subst h;simp
  ·rw [beq_eq_false_iff_ne.mpr h,zf8 f l n];simp [h]
variable {names:List (Str×NameKind)} {n:Str}
theorem zcW:(clOf env names).lookup n=if (n,NameKind.free)∈names then some ((env.cells.lookup n).getD 0) else none:=by
 have e:clOf env names=(((names.filter fun x=>x.2==.free).map (·.1)).reverse).map fun x=>(x,(env.cells.lookup x).getD 0):=by
  unfold clOf;rw [List.map_reverse,List.map_map];rfl
 rw [e,zf8];have:(n∈((names.filter fun x=>x.2==.free).map (·.1)).reverse)↔(n,NameKind.free)∈names:=by
  simp only [List.mem_reverse,List.mem_map,List.mem_filter,beq_iff_eq]
  constructor
  ·intro zz7;refine lift fun g9 k9=>?_;obtain ⟨⟨a,b⟩,⟨h1,h2⟩,h3⟩:=zz7
   apply k9
   clear k9 g9;simp only at h2 h3;subst h2;subst h3;exact h1
  ·intro h;exact ⟨_,⟨h,rfl⟩,rfl⟩
 by_cases h:(n,NameKind.free)∈names
 ·rw [if_pos (this.mpr h),if_pos h]
 ·rw [if_neg (fun q=>h (this.mp q)),if_neg h]
variable {kd:NameKind}
theorem zi0 (hn:(names.map (·.1)).Nodup) (h:(n,kd)∈names):names.lookup n=some kd:=by
 induction names with
 |nil=>cases h
 |cons x r ih=>
  obtain ⟨m,j⟩:=x;simp only [List.map_cons,qar] at hn
  rcases qad.mp h with e |h
  ·cases e;simp [List.lookup_cons]
  ·have:n≠m:=fun e=>hn.1 (e▸List.mem_map_of_mem (f:=(·.1)) h);rw [List.lookup_cons,beq_eq_false_iff_ne.mpr this];exact ih hn.2 h
theorem zdk (h:names.lookup n=some kd):(n,kd)∈names:=PySem.mem_of_lookup h
set_option tactic.hygienic true in
theorem ze5 {out:List (Str×NameKind)} (h:(n,kd)∈relN out names):∃aY,(n,aY)∈names/\(kd=aY\/(aY=.free/\kd=.cell)):=by
 unfold relN at h;refine lift fun g9 k9=>?_;obtain ⟨⟨m,j⟩,hm,e⟩:=List.mem_map.mp h
 apply k9
 clear k9 g9;dsimp only at e
 split at e
 ·rename_i hc;cases e;simp only [qae,beq_iff_eq] at hc;exact ⟨j,hm,.inr ⟨hc.1,rfl⟩⟩
 ·cases e;exact ⟨_,hm,.inl rfl⟩
theorem ziS {out:List (Str×NameKind)} (h:names.lookup n=some .local):(relN out names).lookup n=some .local:=by
 induction names with
 |nil=>simp at h
 |cons x r ih=>
  obtain ⟨m,j⟩:=x;rw [List.lookup_cons] at h;show List.lookup n ((if j==.free&&out.lookup m==some .cell then (m,.cell) else (m,j))::relN out r)=_
  cases hb:n==m with
  |true=>
   rw [hb] at h;cases h;simp [List.lookup_cons,hb]
  |false=>
   rw [hb] at h
   split
   ·rw [List.lookup_cons,hb];exact ih h
   ·rw [List.lookup_cons,hb];exact ih h
structure CompOk (S:Sc) (bs:List (String×Nat)) (scope:Scope):Prop where
 kind:scope.kind=.function
 nodup:(scope.names.map (·.1)).Nodup
 names:∀n kd,(n,kd)∈scope.names->(kd=.local/\(n=(".0" : Str)\/∃p∈bs,Str.ofString p.1=n))\/(kd=.free/\(S.names.lookup n=some .cell\/S.names.lookup n=some .free))\/kd=.globalImplicit
 zero:∀q∈bs++S.nm,Str.ofString q.1≠(".0" : Str)
 nm:(bs.map (·.1)).Nodup
 idx:(bs.map (·.2)).Nodup
 bs:∀p∈bs,scope.names.lookup (Str.ofString p.1)=some .local/\p.2<S.size/\∀q∈S.nm,q.2≠p.2
variable {bs:List (String×Nat)}
theorem zhs (h:zij S bs scope=true):CompOk S bs scope:=by
 unfold zij at h;simp only [qae,beq_iff_eq,qaq,List.all_eq_true,bne_iff_ne] at h;refine ob44 h ?_;clear h;intro h1 h2 h3 h4 h5 h6 h7;refine ⟨h1,h2,fun n kd hm=>?_,h4,h5,h6,fun p hp=>⟨(h7 p hp).1.1,(h7 p hp).1.2,(h7 p hp).2⟩⟩;have:=h3 (n,kd) hm;dsimp only at this;cases kd with
 | «local»=>
  simp only [Bool.or_eq_true,qaq,List.any_eq_true] at this;exact .inl ⟨rfl,this⟩
 |free=>
  simp only [Bool.or_eq_true,beq_iff_eq] at this;exact .inr (.inl ⟨rfl,this⟩)
 |globalImplicit=>exact .inr (.inr rfl)
 |_=>cases this
theorem zaQ:∀{l:List (String×Nat)} {x:String} {i:Nat},l.lookup x=some i->(x,i)∈l
 |(y,j)::r,x,i,h=>by
  rw [List.lookup_cons] at h;cases hb:x==y with
  |true=>rw [hb] at h;cases h;rw [beq_iff_eq.mp hb];exact qaj
  |false=>rw [hb] at h;exact qag _ (zaQ h)
theorem zeN:∀{l:List (String×Nat)} {x:String},x∈l.map (·.1)->∃i,l.lookup x=some i
 |(y,j)::r,x,h=>by
  rw [List.lookup_cons];cases hb:x==y with
  |true=>exact ⟨j,rfl⟩
  |false=>
   rcases qad.mp h with e |h
   ·rw [e] at hb;simp at hb
   ·exact zeN h
theorem znM {l:List (String×Nat)} (hn:(l.map (·.2)).Nodup) {x y:String} (hx:(x,i)∈l) (hy:(y,i)∈l):x=y:=by
 induction l with
 |nil=>cases hx
 |cons p r ih=>
  simp only [List.map_cons,qar] at hn
  rcases qad.mp hx with e |hx<;>rcases qad.mp hy with e' |hy
  ·rw [←e'] at e;exact (Prod.mk.inj e).1
  ·exact absurd (List.mem_map_of_mem (f:=(·.2)) hy) (by rw [←e] at hn;exact hn.1)
  ·exact absurd (List.mem_map_of_mem (f:=(·.2)) hx) (by rw [←e'] at hn;exact hn.1)
  ·exact ih hn.2 hx hy
theorem zbA {nm:List (String×Nat)} {x:String} (h:(bs++nm).lookup x=some i):bs.lookup x=some i\/(bs.lookup x=none/\nm.lookup x=some i):=by
 rw [List.lookup_append] at h;cases hb:bs.lookup x with
 |none=>rw [hb] at h;exact .inr ⟨rfl,h⟩
 |some j=>rw [hb] at h;cases h;exact .inl rfl
theorem zog (K:CompOk S bs scope) (h:NmOk S.nm S.size):NmOk (bs++S.nm) S.size:=by
 refine ⟨fun x y i hx hy=>?_,fun x i hx=>?_⟩
 ·rcases zbA hx with hx |⟨_,hx⟩<;>rcases zbA hy with hy |⟨_,hy⟩
  ·exact znM K.idx (zaQ hx) (zaQ hy)
  ·exact absurd rfl ((K.bs (x,i) (zaQ hx)).2.2 (y,i) (zaQ hy))
  ·exact absurd rfl ((K.bs (y,i) (zaQ hy)).2.2 (x,i) (zaQ hx))
  ·exact h.1 x y i hx hy
 ·rcases zbA hx with hx |⟨_,hx⟩
  ·exact (K.bs _ (zaQ hx)).2.1
  ·exact h.2 x i hx
theorem zii {L:Addr} (U:Sur C k md af S env) (K:CompOk S bs scope):EnvS (zbZ S bs scope.names) (compEnvC scope (clOf env scope.names) L env):=by
 have hrel:(relabel scope env).names=relN S.names scope.names:=by
  unfold relabel relN;dsimp only;refine List.map_congr_left fun x J=>?_;obtain ⟨n,kd⟩:=x;dsimp only;rw [U.ev.kind,U.ev.kindOf,show (ScopeKind.function==ScopeKind.function)=true from rfl,Bool.and_true]
 refine ⟨⟨K.kind,U.ev.globals,U.ev.builtins⟩,hrel,zog K U.ev.nm,fun x hx=>?_⟩;show ((clOf env scope.names).lookup x).isSome=true;have:(x,NameKind.free)∈scope.names:=by
  rcases hx with hx |hx
  ·refine ob1 (ze5 (zdk hx)) ?_;intro aY hm e
   rcases e with rfl |⟨rfl,_⟩
   ·rcases K.names _ _ hm with ⟨e,_⟩ |⟨e,_⟩ |e<;>cases e
   ·exact hm
  ·refine ob1 (ze5 (zdk hx)) ?_;intro aY hm e
   rcases e with rfl |⟨rfl,e⟩
   ·exact hm
   ·cases e
 rw [zcW,if_pos this];rfl
noncomputable def zcH (bs:List (String×Nat)) (ad:Loc):Loc:=bs.foldl (fun r p=>r.set p.2 none) ad
theorem unbind_len:∀{bs:List (String×Nat)} {ad:Loc},(zcH bs ad).length=ad.length
 | [],_=>rfl
 |p::r,ad=>by rw [zcH,List.foldl_cons];exact (unbind_len (bs:=r)).trans (by simp)
theorem zeA:∀{bs:List (String×Nat)} {ad:Loc} {i:Nat} {v:V},(zcH bs ad).get i=some v->ad.get i=some v/\i∉bs.map (·.2)
 | [],_,_,_,h=>⟨h,by simp⟩
 |p::r,ad,i,v,h=>by
  rw [zcH,List.foldl_cons] at h;refine ob16 (zeA (bs:=r) h) ?_;intro h1 h2
  by_cases e:i=p.2
  ·subst e
   by_cases hl:p.2<ad.length
   ·rw [Loc.get_set_self hl] at h1;cases h1
   ·simp [Loc.get,hl] at h1
  ·rw [Loc.get_set_ne e] at h1;exact ⟨h1,by simp only [List.map_cons,qad,not_or];exact ⟨e,h2⟩⟩
set_option tactic.hygienic true in
theorem zgQ {v:V} {aE:Loc} (hn:(tgOf t).Nodup) (ht:tgOf t=bs.map (·.2)) (h:zay t v ad=some aE):zay t v (zcH bs ad)=some aE:=by
 have comm:∀{is:List Nat} {i:Nat} {ad:Loc} {u:Option V},i∉is->(is.foldl (fun r j=>r.set j none) ad).set i u=is.foldl (fun r j=>r.set j none) (ad.set i u):=by
  intro is
  induction is with
  |nil=>intros;rfl
  |cons j is ih=>
   intro i ad u hi;simp only [qad,not_or] at hi;simp only [List.foldl_cons];rw [ih hi.2,List.set_comm _ _ (Ne.symm hi.1)]
 have many:∀{is:List Nat} {vs:List V} {ad:Loc},is.Nodup->is.length=vs.length->(is.zip vs).foldl (fun r p=>r.set p.1 (some p.2)) (is.foldl (fun r j=>r.set j none) ad)=(is.zip vs).foldl (fun r p=>r.set p.1 (some p.2)) ad:=by
  intro is
  induction is with
  |nil=>intros;rfl
  |cons j is ih=>
   intro vs ad hn hl;cases vs with
   |nil=>simp at hl
   |cons v vs=>
    simp only [qar] at hn;simp only [List.zip_cons_cons,List.foldl_cons];rw [comm hn.1,List.set_set,ih hn.2 (by simpa using hl)]
 have eu:zcH bs ad=(bs.map (·.2)).foldl (fun r j=>r.set j none) ad:=by unfold zcH;rw [List.foldl_map]
 rw [eu,←ht];cases t with
 |one i=>
  simp only [zay,Option.some.injEq,tgOf,List.foldl_cons,List.foldl_nil] at h ⊢;subst h;rw [List.set_set]
 |many is=>
  cases v with
  |tup vs=>
   simp only [zay,tgOf] at h ⊢
   split at h
   ·rename_i hl;cases h;rw [if_pos hl,many (is:=is) hn hl]
   ·cases h
  |_=>simp [zay] at h
set_option tactic.hygienic true in
theorem zoh {L:Addr} {m:Str->Option Value} (U:Sur C k md af S env) (K:CompOk S bs scope) (l:LR C aa s.heap env S.nm ad) (hN:s.heap.Ns L m) (hσ:aa L=none) (hb:C.base.get? L=none) :
  LR C aa s.heap (compEnvC scope (clOf env scope.names) L env) (bs++S.nm) (zcH bs ad):=by
 have ES:=zii (L:=L) U K;have cl:∀{x c},(clOf env scope.names).lookup x=some c->(x,NameKind.free)∈scope.names/\env.cells.lookup x=some c:=fun {x c} h=>by
  rw [zcW] at h
  split at h
  ·rename_i hf;refine ⟨hf,?_⟩
   rcases K.names _ _ hf with ⟨e,_⟩ |⟨_,hx⟩ |e
   ·cases e
   ·refine ob14 (Option.isSome_iff_exists.mp (U.ev.cells x hx)) ?_;intro c' hc';rw [hc'] at h ⊢;exact h
   ·cases e
  ·cases h
 refine ⟨fun x i v hx hv=>?_,⟨m,hN⟩,⟨hσ,hb⟩,fun x c hc=>l.cells x c (cl hc).2,fun x y c hx hy=>l.apart x y c (cl hx).2 (cl hy).2⟩;refine ob16 (zeA hv) ?_;intro hv hni
 rcases zbA hx with hx |⟨hxn,hx⟩
 ·exact absurd (List.mem_map_of_mem (f:=(·.2)) (zaQ hx)) hni
 have hold:=l.holds x i v hx hv;have kk:=ES.kindOf (Str.ofString x);unfold Holds at hold ⊢;rw [kk];have free:(zbZ S bs scope.names).names.lookup (Str.ofString x)=some .cell\/(zbZ S bs scope.names).names.lookup (Str.ofString x)=some .free->∃c u,(clOf env scope.names).lookup (Str.ofString x)=some c/\s.heap.IsCell c (some u)/\VR s.heap v u:=fun hx'=>by
  refine ob14 (Option.isSome_iff_exists.mp (ES.cells _ hx')) ?_;intro c hc;refine ob16 (cl hc) ?_;intro hf hc'
  rcases K.names _ _ hf with ⟨e,_⟩ |⟨_,hy⟩ |e
  ·cases e
  ·rw [U.ev.kindOf] at hold
   rcases hy with hy |hy
   ·rw [hy] at hold;refine ob2 hold ?_;clear hold;intro aM u h1 h2 h3;rw [hc'] at h1;cases h1;exact ⟨c,u,hc,h2,h3⟩
   ·rw [hy] at hold;refine ob2 hold ?_;clear hold;intro aM u h1 h2 h3;rw [hc'] at h1;cases h1;exact ⟨c,u,hc,h2,h3⟩
  ·cases e
 split
 ·rename_i hk
  exfalso
  refine ob1 (ze5 (zdk hk)) ?_;intro aY hm e
  rcases e with rfl |⟨rfl,e⟩
  ·rcases K.names _ _ hm with ⟨_,e |⟨p,hp,e⟩⟩ |⟨e,_⟩ |e
   ·exact K.zero (x,i) (qap _ (zaQ hx)) e
   ·have:=ofString_inj e;obtain ⟨j,hj⟩:=zeN (l:=bs) (x:=x) (by rw [←this];exact List.mem_map_of_mem (f:=(·.1)) hp)
    rw [hxn] at hj;cases hj
   ·cases e
   ·cases e
  ·cases e
 ·rename_i hk;exact free (.inl hk)
 ·rename_i hk;exact free (.inr hk)
 ·trivial
def CEnd (C:Cx) (aa:Store) (s:Shared) (Q:V->Store->Prop) (acc L:Addr) (s':Shared):Prop:=
 ∃ac,Q (.ref acc) ac/\Step C No aa s ac s'/\(∃m,s'.heap.Ns L m)/\ac L=none/\C.base.get? L=none/\s.heap.objs.size<=L
set_option tactic.hygienic true in
theorem zgp {it:Ex} {x y:Expr} {Q:V->Store->Prop} {use:Option (Value->Sem Unit)} {QQ:Value->Shared->Prop}
  (hit:ItP C it) (helt:EvP C elt) (hcond:CoP C cond) (U:Sur C k md af S env) (d:Dyn C k md S A env ad aa s) (hm:zal S (.comp bs elt t it cond) (.ListComp x [⟨tg,y,ifs,0⟩] scope pos)=true)
  (h:wpE af md (.comp bs elt t it cond) ad aa Q X) (hE:∀v s',PostX C aa s X v s'->E v s')
  (hend:∀acc L s',CEnd C aa s Q acc L s'->compPost C.M A E use QQ (.ref acc) L (.ok .next) s') :
  wpAny C.M A (comprehension (.ListComp x [⟨tg,y,ifs,0⟩] scope pos) scope env y.pos (newList []) false (eval y env) use) QQ E s:=by
 have hm:(zij S bs scope&&zd5 (zbZ S bs scope.names) t tg&&decide (tgOf t=bs.map (·.2))&&zal S it y&&zal (zbZ S bs scope.names) elt x&&zc8 (zbZ S bs scope.names) cond ifs&&decide ((0:Int)=0))=true:=hm;simp only [qae,qaq] at hm;rw [zld] at h
 replace h:=zbG h
 refine ob44 hm ?_;clear hm;intro hK hT htt h1 h2 h3 _;refine ob16 h ?_;clear h;intro hmd h;have K:=zhs hK;have hfree:∀z∈scope.names,z.2=.free->(env.cells.lookup z.1).isSome=true:=fun z hz hf=>by
  obtain ⟨n,kd⟩:=z;simp only at hf;subst hf
  rcases K.names _ _ hz with ⟨e,_⟩ |⟨_,hy⟩ |e
  ·cases e
  ·exact U.ev.cells n hy
  ·cases e
 refine wpAny_comprehension_free (cl:=clOf env scope.names) rfl (fun v=>zgk h1 v) (zji hfree) K.kind (fun z hz hl=>zi0 K.nodup (by obtain ⟨n,kd⟩:=z;simp only at hl;subst hl;exact hz)) ?_
 refine wpAny_mono (hit U d h1 hmd h) (fun v ag ao=>wpAny_mono ao (fun v ai aB=>?_) fun J J hx=>hE _ _ hx) fun J J hx=>hE _ _ hx;refine ob45 aB ?_;clear aB;intro I wr items chk St Mid ae ee143;subst ee143;intro W hst hold hwr st q;refine wpAny_newList ?_ (by simp [sizeLine_eq])
 refine wpAny_newFunctionEnv (fun z hz e=>?_) (fun z hz=>by cases hz) (fun h' hN hs=>?_) K.kind
 ·obtain ⟨n,kd⟩:=z;simp only at e;subst e
  rcases K.names _ _ hz with ⟨e,_⟩ |⟨e,_⟩ |e<;>cases e
 have hsz3:(ai.heap.push { cls:=.type "list",data:=.seq #[] }).objs.size=ai.heap.objs.size+1:=Heap.size_push ..;generalize hacc:ai.heap.objs.size=acc at hsz3 ⊢;have hLe:({ ai with heap:=ai.heap.push { cls:=.type "list",data:=.seq ([]:List Value).toArray } }:Shared).heap.objs.size=acc+1:=hsz3;rw [hLe] at hN hs ⊢;show codeAny C.M A (.compStart _ 0 (.ref I) (.ref acc) (compEnvC scope (clOf env scope.names) (acc+1) env)) _ _;have kp:∀b o,ai.heap.get? b=some o->h'.get? b=some o:=fun b o e=>by
  have hlt:=Heap.lt_size e;rw [hacc] at hlt;rw [hs.2 b (Nat.ne_of_lt (Nat.lt_succ_of_lt hlt))];exact zad _ _ (zad _ _ e)
 have hsz:ai.heap.objs.size<=h'.objs.size:=by
  rw [hs.1,Heap.size_push,Heap.size_push];lia
 have stg:Step C No ae ai ae { ai with heap:=h',toks:=ai.toks+([]:List (Str×Value)).length }:=.grow st.rel kp hsz;have st4:=st.trans stg;have hss:=st.h.size;have d4:=d.step st4;have haccO:h'.get? acc=some (seqObj "list" ([]:List Value).toArray 0):=by
  rw [hs.2 acc (Nat.ne_of_lt (Nat.lt_succ_self _))];refine zad _ _ ?_;rw [←hacc];exact qax _ rfl
 have sacc:s.heap.objs.size<=acc:=hacc▸hss;have naccσ:ae acc=none:=st.rel.none_of_ge (Nat.le_of_eq hacc);have nLσ:ae (acc+1)=none:=st.rel.none_of_ge (by rw [hacc];exact Nat.le_succ _)
 have nLb:C.base.get? (acc+1)=none:=za6 st.rel (by rw [hacc];exact Nat.le_succ _)
 have naccb:C.base.get? acc=none:=za6 st.rel (Nat.le_of_eq hacc);have U':Sur C k md af (zbZ S bs scope.names) (compEnvC scope (clOf env scope.names) (acc+1) env):=⟨U.X,U.I,U.ca,zii U K⟩;have d':Dyn C k md (zbZ S bs scope.names) A (compEnvC scope (clOf env scope.names) (acc+1) env) (zcH bs ad) ae { ai with heap:=h',toks:=ai.toks+([]:List (Str×Value)).length }:=
  ⟨d4.a,d4.r,zoh U K d4.l hN nLσ nLb,unbind_len.trans d.len⟩
 refine ob16 (hold.step stg fun J J f=>f) ?_;intro hold4 kp4
 -- the cells of the outer block are old
 have cellOld:∀c,Own (compEnvC scope (clOf env scope.names) (acc+1) env) c->c=acc+1\/c<s.heap.objs.size:=fun c hc=>by
  rcases hc with rfl |⟨n,hc⟩
  ·exact .inl rfl
  ·right
   have hc:(clOf env scope.names).lookup n=some c:=hc;have hc':env.cells.lookup n=some c:=by
    rw [zcW] at hc
    split at hc
    ·rename_i hf;refine ob14 (Option.isSome_iff_exists.mp (hfree _ hf rfl)) ?_;intro c' hc';rw [hc'] at hc ⊢;exact hc
    ·cases hc
   refine ob13 (d.l.cells n c hc') ?_;intro v o ho _ _;exact Heap.lt_size ho
 have wrLt:∀b∈wr,b<acc:=fun b hb=>by
  refine ob1 (hold.at_ b hb) ?_;intro o ho _;exact hacc▸Heap.lt_size ho
 have inv:CInv C k md (zbZ S bs scope.names) A (compEnvC scope (clOf env scope.names) (acc+1) env) (zcH bs ad) wr acc St aa s 0 [] ae { ai with heap:=h',toks:=ai.toks+([]:List (Str×Value)).length }:=
  ⟨W.frame 0 _ _ hst stg.h.tup kp4,hold4,⟨[],0,haccO,.nil⟩,Nat.zero_le _,naccσ,st4.no,d'⟩
 have hnd:(tgOf t).Nodup:=htt▸K.idx;have loop:codeAny C.M A (.compLoop (.ListComp x [⟨tg,y,ifs,0⟩] scope pos) 0 (.ref I) (.ref acc) (compEnvC scope (clOf env scope.names) (acc+1) env)) (compPost C.M A E use QQ (.ref acc) (acc+1))
   { ai with heap:=h',toks:=ai.toks+([]:List (Str×Value)).length }:=by
  refine zjg (y:=y) (ad:=ad) (t:=t) (Q:=Q) W U' helt hcond hT h2 h3 hmd (fun id i ho hi a ha=>?_) hnd (fun b hb=>⟨hwr b hb,fun ho=>?_,Nat.ne_of_lt (wrLt b hb)⟩) ⟨sacc,fun ho=>?_⟩ naccb
   (Nat.le_succ_of_le sacc) d.a.low (fun vs ac s' hinv hal s'' stw=>?_) (fun v aE hb=>zgQ hnd htt hb) inv (Nat.zero_le _) q
  ·rcases ha with ⟨_,rfl⟩ |⟨hk,_⟩
   ·rfl
   ·exfalso
    refine ob6 (Sc.own_elim ho) ?_;intro n ee144;subst ee144;intro hn _;rw [U'.ev.kindOf] at hk
    rcases zbA hn with hn' |⟨_,hn'⟩
    ·have:=ziS (out:=S.names) (K.bs _ (zaQ hn')).1;have hk':(relN S.names scope.names).lookup (Str.ofString n)=some .cell:=hk;rw [this] at hk';cases hk'
    ·rw [htt] at hi;refine ob1 (List.mem_map.mp hi) ?_;intro p hp hpe;exact (K.bs p hp).2.2 _ (zaQ hn') hpe.symm
  ·rcases cellOld b ho with e |e
   ·exact absurd (wrLt b hb) (by rw [e];exact Nat.not_lt.mpr (Nat.le_succ _))
   ·exact absurd (hwr b hb) (Nat.not_le.mpr e)
  ·rcases cellOld acc ho with e |e
   ·exact absurd e (Nat.ne_of_lt (Nat.lt_succ_self _))
   ·exact absurd sacc (Nat.not_le.mpr e)
  ·refine ob20 hinv ?_;clear hinv;intro i aI inv';have dEnd:Dyn C k md (zbZ S bs scope.names) A (compEnvC scope (clOf env scope.names) (acc+1) env) aI ac s'':=inv'.dyn.apart (n:=s.heap.objs.size) stw d.a.low (fun a ha=>hwr a ha) fun a ha hb=>by
    rcases cellOld a ha with e |e
    ·exact absurd (wrLt a hb) (by rw [e];exact Nat.not_lt.mpr (Nat.le_succ _))
    ·exact absurd (hwr a hb) (Nat.not_le.mpr e)
   refine ob22 inv'.obj ?_;intro xs n hL hX;have hL':IsL s''.heap acc xs.toArray n:=(stw.h.keep acc _ hL fun z=>z.elim (fun z=>z inv'.accN) fun z=>absurd (wrLt acc z) (Nat.lt_irrefl _)).plain (fun es m q=>by cases q)
   have tot:Step C (fun a=>s.heap.objs.size<=a) aa s ac s'':=inv'.step.trans (stw.mono fun a ha=>hwr a ha);have hbb:C.base.objs.size<=acc:=qak d.r.size sacc;have fin:Step C No aa s (ac.upd acc (.list vs)) s'':=(tot.adopt (o:=.list vs) sacc inv'.accN ⟨xs,n,hL',stw.vrs hX,inv'.len⟩ hbb).drop fun a ha=>ha;refine hend acc (acc+1) s'' ⟨_,hal acc inv'.accN,fin,dEnd.l.locals,?_,nLb,Nat.le_succ_of_le sacc⟩;rw [zbr (Nat.succ_ne_self _)];exact dEnd.l.lnew.1
 exact codeAny_compStart_list loop (W.self 0 _ _ _ inv.st loop)
theorem CEnd.after {Q:V->Store->Prop} {L:Addr} {h':Heap} (x:CEnd C aa s Q acc L s') (hs:Heap.SameBut L s'.heap h'):PostV C aa s Q (.ref acc) { s' with heap:=h' }:=by
 refine lift fun g9 k9=>?_;obtain ⟨ac,q,st,⟨m,o,es,ep,ho,hd,_⟩,hn,hb,hl⟩:=x
 apply k9
 clear k9 g9;have st2:Step C (· = L) ac s' ac { s' with heap:=h' }:=Step.oneBut (t:=s'.toks) st.rel hs hn hb rfl ho fun ⟨_,_,_,q⟩=>by rw [hd] at q;cases q
 exact ⟨_,ac,q,.ref,((st.no (D:=fun a=>s.heap.objs.size<=a)).trans (st2.mono fun a e=>e▸hl)).drop fun J h=>h⟩
theorem zeW {it:Ex} {x:Expr} (hm:zal S (.comp bs elt t it cond) x=true):∃y tg z ifs scope pos,x=.ListComp y [⟨tg,z,ifs,0⟩] scope pos:=by
 refine lcME hm ?_;intro y gs scope pos hm;refine l1E hm ?_;intro g hm;simp only [qae,qaq] at hm;have ha:=hm.2;refine lift fun g9 k9=>?_;obtain ⟨tg,z,ifs,as⟩:=g
 apply k9
 clear k9 g9;cases ha;exact ⟨_,_,_,_,_,_,rfl⟩
theorem zn4 {bs:List (String×Nat)} {it:Ex} {t:Tg} (hit:ItP C it) (helt:EvP C elt) (hcond:CoP C cond):EvP C (.comp bs elt t it cond):=by
 intro k md af S x env A ad aa s Q X U d hm h;refine ob46 (zeW hm) ?_;intro y tg z ifs scope pos ee145;subst ee145;rw [eval_ListComp];refine zgp (use:=none) hit helt hcond U d hm h (fun J J hx=>hx) fun acc L s' hc=>?_;have hc':=hc;refine ob8 hc' ?_;clear hc';intro ac q st hm J;refine ob14 hm ?_;clear hm;intro m hm;exact ⟨m,hm,fun h' hs=>hc.after hs⟩
/- all expressions -/
def Both (C:Cx) (e:Ex):Prop:=EvP C e/\TrP C e/\ItP C e
def zp5 (C:Cx) (es:Exs):Prop:=EvsP C es/\BoP C es/\BtP C es
def zp6 (C:Cx) (o:ExO):Prop:=EvoP C o/\CoP C o
theorem zhJ (he:EvP C e) (hx:∀S x env,zal S e x=true->isTrue x env (eval x env)=(do let v ←eval x env;standAt x.pos;holding [v] (PySem.truthy v))):TrP C e:=by
 intro k md af S x env A ad aa s Q X U d hm h hq;exact zpE he U d hm h hq (hx S x env hm)
theorem zaB (he:EvP C e) (hx:∀S x env,zal S e x=true->isTrue x env (eval x env)=(do let v ←eval x env;standAt x.pos;holding [v] (PySem.truthy v))) (hw:∀af md ad aa Q X,wpIt af md e ad aa Q X=wpE af md e ad aa (fun u ae=>zb6 u ae fun items chk=>Q items chk ae) X):Both C e:=
 ⟨he,zhJ he hx,zi7 he hw⟩
theorem no_e (h:∀S x,zal S e x=false):Both C e:=by
 refine ⟨?_,?_,?_⟩<;>intro k md af S x env A ad aa s Q X U d hm<;>exact Bool.noConfusion ((h _ _).symm.trans hm)
theorem zhW (h:∀af md ad aa Q X,wpE af md e ad aa Q X=False):EvP C e:=by
 intro k md af S x env A ad aa s Q X U d hm hw;rw [h] at hw;exact hw.elim
theorem zf0 (h:∀af md ad aa Q X,wpE af md e ad aa Q X=False):TrP C e:=by
 intro k md af S x env A ad aa s Q X U d hm hw;rw [h] at hw;exact hw.elim
mutual
theorem zaC:∀e:Ex,Both C e
 |.none=>zaB znW (fun S x env hm=>(cME hm fun J J J J=>rfl)) fun J J J J J J=>rfl
 |.tt=>zaB zpS (fun S x env hm=>(cME hm fun J J J J=>rfl)) fun J J J J J J=>rfl
 |.ff=>zaB zpV (fun S x env hm=>(cME hm fun J J J J=>rfl)) fun J J J J J J=>rfl
 |.int _=>zaB zph (fun S x env hm=>(cME hm fun J J J J=>rfl)) fun J J J J J J=>rfl
 |.str _=>zaB zpe (fun S x env hm=>(cME hm fun J J J J=>rfl)) fun J J J J J J=>rfl
 |.var _=>zaB zpd (fun S x env hm=>(nmME hm fun J J J=>rfl)) fun J J J J J J=>rfl
 |.glob _=>zaB zn3 (fun S x env hm=>(nmME hm fun J J J=>rfl)) fun J J J J J J=>rfl
 |.bin op a b=>zaB (zpk (op:=op) (zaC a).1 (zaC b).1) (fun S x env hm=>(biME hm fun J J J J J=>rfl)) fun J J J J J J=>rfl
 |.neg a=>let e:EvP C (.neg a):=zpg (zaC a).1;⟨e,zhJ e fun S x env hm=>(by
   refine unME hm ?_;intro op l p hm;simp only [qae,qaq] at hm;refine ob16 hm ?_;clear hm;intro ee146;subst ee146;intro J
   rfl),zi7 e fun J J J J J J=>rfl⟩
 |.not a=>let e:EvP C (.not a):=zpf (zaC a).1;⟨e,zoz (zaC a).2.1,zi7 e fun J J J J J J=>rfl⟩
 |.cmp op a b=>let e:EvP C (.cmp op a b):=zpj (op:=op) (zaC a).1 (zaC b).1;⟨e,zoA (zaC a).1 (zaC b).1,zi7 e fun J J J J J J=>rfl⟩
 |.cmp2 o₁ o₂ a b c=>let e:EvP C (.cmp2 o₁ o₂ a b c):=zn5 (o₁:=o₁) (o₂:=o₂) (zaC a).1 (zaC b).1 (zaC c).1;⟨e,zm6 (zaC a).1 (zaC b).1 (zaC c).1,zi7 e fun J J J J J J=>rfl⟩
 |.bool i es=>let e:EvP C (.bool i es):=zn7 (isAnd:=i) (zey es).2.1;⟨e,zm7 (zey es).2.2,zi7 e fun J J J J J J=>rfl⟩
 |.call f es=>zaB (zn6 (f:=f) (zey es).1) (fun S x env hm=>(ncME hm fun J J J J J=>rfl)) fun J J J J J J=>rfl
 |.make f es=>zaB (zn0 (c:=f) (zey es).1) (fun S x env hm=>(ncME hm fun J J J J J=>rfl)) fun J J J J J J=>rfl
 |.meth o n es=>zaB (znY (name:=n) (zaC o).1 (zey es).1) (fun S x env hm=>(acME hm fun J J J J J J=>rfl)) fun J J J J J J=>rfl
 |.m0 o m=>zaB (zpU (m:=m) (zaC o).1) (fun S x env hm=>(acME hm fun J J J J J J=>rfl)) fun J J J J J J=>rfl
 |.m1 o m a=>zaB (zpT (m:=m) (zaC o).1 (zaC a).1) (fun S x env hm=>(acME hm fun J J J J J J=>rfl)) fun J J J J J J=>rfl
 |.attr o n=>zaB (zn8 (name:=n) (zaC o).1) (fun S x env hm=>(atME hm fun J J J J=>rfl)) fun J J J J J J=>rfl
 |.idx a b=>zaB (zpi (zaC a).1 (zaC b).1) (fun S x env hm=>(suME hm fun J J J J=>rfl)) fun J J J J J J=>rfl
 |.slice a l h=>zaB (zmi (zaC a).1 (zmu l).1 (zmu h).1) (fun S x env hm=>(zoL hm fun J J J J J J=>rfl)) fun J J J J J J=>rfl
 |.list es=>zaB (zn1 (zey es).1) (fun S x env hm=>(liME hm fun J J J=>rfl)) fun J J J J J J=>rfl
 |.tuple es=>zaB (zmh (zey es).1) (fun S x env hm=>(tuME hm fun J J J J=>rfl)) fun J J J J J J=>rfl
 |.dict0=>zaB zmk (fun S x env hm=>(diME hm fun J J J J=>rfl)) fun J J J J J J=>rfl
 |.dict1 i=>zaB zmj (fun S x env hm=>(diME hm fun J J J J=>rfl)) fun J J J J J J=>rfl
 |.comp bs elt t it cond=>zaB (zn4 (bs:=bs) (t:=t) (zaC it).2.2 (zaC elt).1 (zmu cond).2) (fun S x env hm=>(lcME hm fun J J J J J=>rfl)) fun J J J J J J=>rfl
 |.b1 f a=>zaB (zpW (f:=f) (zaC a).1) (fun S x env hm=>(ncME hm fun J J J J J=>rfl)) fun J J J J J J=>rfl
 |.sset a=>zaB (znU (zaC a).1) (fun S x env hm=>(ncME hm fun J J J J J=>rfl)) fun J J J J J J=>rfl
 |.min2 a b=>zaB (znX (zaC a).1 (zaC b).1) (fun S x env hm=>(ncME hm fun J J J J J=>rfl)) fun J J J J J J=>rfl
 |.max2 a b=>zaB (znZ (zaC a).1 (zaC b).1) (fun S x env hm=>(ncME hm fun J J J J J=>rfl)) fun J J J J J J=>rfl
 |.isin a t=>zaB (zn2 (t:=t) (zaC a).1) (fun S x env hm=>(ncME hm fun J J J J J=>rfl)) fun J J J J J J=>rfl
 |.range1 a=>⟨zhW fun J J J J J J=>rfl,zf0 fun J J J J J J=>rfl,zkn (zaC a).1⟩
 |.range2 _ _=>no_e fun J J=>rfl
 |.range3 a b c=>⟨zhW fun J J J J J J=>rfl,zf0 fun J J J J J J=>rfl,zkm (zaC a).1 (zaC b).1 (zaC c).1⟩
theorem zey:∀es:Exs,zp5 C es
 |.nil=>⟨evs_nil,bo_nil,bt_nil⟩
 |.cons e es=>⟨zmf (zaC e).1 (zey es).1,zop (zaC e).1 (zey es).2.1,zol (zaC e).2.1 (zey es).2.2⟩
theorem zmu:∀o:ExO,zp6 C o
 |.none=>⟨evo_none,co_none⟩
 |.some e=>⟨zmg (zaC e).1,zoi (zaC e).2.1⟩
end
end
def FlyT (C:Cx) (aw h:Heap) (e:Addr) (c:String):Prop:=
 ∃Cl oe vs T oT ts,(C.cls c=some Cl/\c∈excNames)/\h.get? e=some oe/\(oe.cls=.ref Cl/\oe.dict=none)/\oe.data=.fields vs/\1<vs.size/\aw.objs.size<=e /\
  vs[1]?=some (.ref T)/\T≠e/\aw.objs.size<=T/\h.get? T=some oT/\oT.cls=.type "traceback" /\ oT.data=.fields ts/\3<ts.size
theorem FlyT.core {C:Cx} {aw h:Heap} {e:Addr} {c:String} (x:FlyT C aw h e c):∃Cl oe vs T,((C.cls c=some Cl/\c∈excNames)/\h.get? e=some oe/\(oe.cls=.ref Cl/\oe.dict=none)/\oe.data=.fields vs)/\aw.objs.size<=e/\vs[1]?=some (.ref T):=by
 refine ob47 x ?_;clear x;intro Cl oe vs T oT ts a1 a2 a3 a4 a5 a6 b1;exact ⟨Cl,oe,vs,T,⟨a1,a2,a3,a4⟩,a6,b1.1⟩
theorem FlyT.fly {C:Cx} {aw h:Heap} {e:Addr} {c:String} (x:FlyT C aw h e c):Fly C aw h e c:=by
 refine ob47 x ?_;clear x;intro Cl oe vs T oT ts a1 a2 a3 a4 a5 a6 b1;exact ⟨Cl,oe,vs,a1,a2,a3,a4,a5,a6,.inr ⟨T,oT,ts,b1⟩⟩
theorem zex (o:Obj) (f):(o.mapFields f).dict=o.dict:=by obtain ⟨c,d,dt,sl⟩:=o;cases dt<;>rfl
section
variable {C:Cx} {A:Around} {E:Value->Shared->Prop} {aa:Store} {s:Shared} {aw:Heap} {e:Addr} {c:String}
theorem zoD {T:Addr} {oT:Obj} (r:Rel C aa s.heap) (hT:s.heap.get? T=some oT) (hc:oT.cls=.type "traceback"):aa T=none:=by
 cases q:aa T with
 |none=>rfl
 |some o=>
  refine ob35 ((r.tr T o q).there) ?_;intro ob ho J J J h5;rw [hT] at ho;cases ho;exact absurd hc h5
theorem zhv {a:Addr} (hs:C.base.objs.size<=aw.objs.size) (ha:aw.objs.size<=a):C.base.get? a=none:=by
 cases q:C.base.get? a with
 |none=>rfl
 |some o=>exact absurd (Heap.lt_size q) (Nat.not_lt.mpr (qak hs ha))
theorem zdl {a:Addr} {o:Obj} {vs:Array Value} {i:Nat} {x:Value} (r:Rel C aa s.heap) (ho:s.heap.get? a=some o) (hd:o.data=.fields vs) (hn:aa a=none) (hb:C.base.get? a=none) :
  Step C (· = a) aa s aa { s with heap:=s.heap.update a (Obj.mapFields (·.setIfInBounds i x)) } /\
   (s.heap.update a (Obj.mapFields (·.setIfInBounds i x))).get? a=some (o.mapFields (·.setIfInBounds i x)):=by
 have hd₃:=Obj.data_mapFields hd (·.setIfInBounds i x);exact ⟨Step.oneBut (t:=s.toks) r ⟨Heap.size_update ..,fun b hb=>Heap.get?_update_other _ _ (Ne.symm hb)⟩ hn hb rfl ho fun ⟨_,_,_,q⟩=>(by rw [hd] at q;cases q),Heap.get?_update_self _ ho (Obj.isFreed_of_fields hd₃)⟩
theorem zbm {f:Option Addr} {Q:Unit->Shared->Prop} (r:Rel C aa s.heap) (hs:C.base.objs.size<=aw.objs.size) (fl:FlyT C aw s.heap e c) (h:∀s',Step C (fun a=>aw.objs.size<=a) aa s aa s'->FlyT C aw s'.heap e c->Q () s') :
  wpAny C.M A (setFlight (.ref e) f) Q E s:=by
 refine lift fun g9 k9=>?_;obtain ⟨Cl,oe,vs,T,oT,ts,a1,a2,a3,a4,a5,a6,b1,b2,b3,b4,b5,b6,b7⟩:=fl
 apply k9
 clear k9 g9;unfold setFlight;refine qaa (wpAny_field a2 a4 b1 ?_);rw [if_pos (show (Value.ref T != Value.none)=true from by simp)]
 refine wpAny_setField b4 b6 b7 ?_;refine ob16 (zdl (i:=3) (x:=f.elim .none fun f=>rawInt f) r b4 b6 (zoD r b4 b5) (zhv hs b3)) ?_;intro st hT';refine h _ (st.mono fun a q=>q▸b3) ⟨Cl,oe,vs,T,_,ts.setIfInBounds 3 (f.elim .none fun f=>rawInt f),a1,?_,a3,a4,a5,a6,b1,b2,b3,hT',?_,Obj.data_mapFields b6 _,by simpa using b7⟩
 ·show (s.heap.update T _).get? e=_;rw [Heap.get?_update_other _ _ b2];exact a2
 ·rw [Obj.cls_mapFields];exact b5
theorem ziN {l:List Env} {h':Heap} (r:Rel C aa s.heap) (fo:FramesOk C A aa s.heap) (hl:A.frames=some l) (hs:Heap.SlotsOnly (l.filterMap (·.frame)) s.heap h'):Step C No aa s aa { s with heap:=h' }:=by
 refine ob6 fo ?_;clear fo;intro l' hl' hf hn;rw [hl] at hl';cases hl';have eq:∀b o,s.heap.get? b=some o->(∀es n,o.data≠.dict es n)->h'.get? b=some o:=fun b o e hd=>by
  refine (hs.2.1 b fun hb=>?_).trans e;refine ob7 (hn b hb) ?_;intro J o' es n ho' hd';rw [e] at ho';cases ho';exact hd es n hd'
 have tk:zaU s.heap h':=fun b o e ⟨_,xs,n,hd⟩=>eq b o e fun es m q=>by rw [hd] at q;cases q
 have old:∀b,b∉l.filterMap (·.frame)->h'.get? b=s.heap.get? b:=hs.2.1;refine ⟨⟨Nat.le_of_eq hs.1.symm,fun a o e n=>?_,tk⟩,r.frame (fun a o q=>old a fun hb=>by rw [(hn a hb).1] at q;cases q) tk (fun b o e=>?_) (Nat.le_of_eq hs.1.symm),fun J x=>x,fun J x=>.inl x,rfl,rfl⟩
 ·by_cases hb:a∈l.filterMap (·.frame)
  ·refine ob7 (hn a hb) ?_;intro J o' es n' ho' hd';rw [e] at ho';cases ho';refine ob14 (hs.2.2 a o e) ?_;intro sl hsl;exact .inr ⟨es,n',sl,hd',hsl⟩
  ·exact .inl ((old a hb).trans e)
 ·refine (old b fun hb=>?_).trans (r.stays b o e);rw [(hf.mem hb).1] at e;cases e
theorem zg5 {env:Env} {outer:List Env} {L:Addr} {Q:Unit->Shared->Prop} (hA:A.frames=some (env::outer)) (hf:env.frame=some L) (fo:FramesOk C A aa s.heap) (r:Rel C aa s.heap) (hs:C.base.objs.size<=aw.objs.size) (h₀s:aw.objs.size<=s.heap.objs.size)
  (fl:Fly C aw s.heap e c) (hn:aa e=none) (h:∀s',Step C (fun a=>aw.objs.size<=a) aa s aa s'->FlyT C aw s'.heap e c->Q () s'):wpAny C.M A (noteFrame (.ref e) env) Q E s:=by
 refine ob3 fl ?_;clear fl;intro Cl oe vs a1 a2 a3 a4 a5 a6 a7;have entry:∀{ag:Shared} {head:Value} {b:Bool},Step C (fun a=>aw.objs.size<=a) aa s aa ag->FramesOk C A aa ag.heap->ag.heap.get? e=some oe ->
   wpAny C.M A (frameOf env >>= fun fr=>entryPlaceOf L b >>= fun pl=>EntryCells.newEntry head fr .none (rawInt L) .none pl >>= fun t=>setField (.ref e) 1 t) Q E ag:=by
  intro ag head b st bJ he;refine ob6 (id bJ) ?_;intro l hl hff hfn;have hl':=hl;rw [hA] at hl';cases hl';refine qaa (wpAny_frameOf_fun hA hff hf fun ao hs₁=>?_);refine qaa (wpAny_entryPlaceOf fun pl hpl=>?_);unfold EntryCells.newEntry newFields;refine qaa (wpAny_newObj_type ?_ (hpl.sizeOk5 _ _ _ _ _));have st1:Step C No aa ag aa { ag with heap:=ao }:=ziN st.rel bJ hA hs₁;have he1:ao.get? e=some oe:=(st1.h.keep e oe he fun q=>q.elim (fun z=>z hn) id).plain (fun es n q=>by rw [a4] at q;cases q)
  generalize hob:({ cls:=.type "traceback",dict:=none,data:=.fields ([head,.ref L,.none,rawInt L,.none]++(if pl.isEmpty then List.replicate 6 Value.none else pl)).toArray }:Obj)=ob
  have st2:Step C No aa { ag with heap:=ao } aa { ag with heap:=ao.push ob }:=.grow (s:={ ag with heap:=ao }) (t:=ag.toks) st1.rel zad zaA;have he2:(ao.push ob).get? e=some oe:=zad _ _ he1;refine wpAny_setField he2 a4 a5 ?_;refine ob16 (zdl (s:={ ag with heap:=ao.push ob }) (i:=1) (x:=.ref ao.objs.size) st2.rel he2 a4 hn (zhv hs a6)) ?_;intro st3 he3;have hTe:ao.objs.size≠e:=Nat.ne_of_gt (Heap.lt_size he1);have hsz:aw.objs.size<=ao.objs.size:=qak h₀s (qak st.h.size st1.h.size);refine h _ (((st.trans st1.no).trans st2.no).trans (st3.mono fun a q=>q▸a6)) ⟨Cl,_,vs.setIfInBounds 1 (.ref ao.objs.size),ao.objs.size,ob,_,a1,he3,⟨by rw [Obj.cls_mapFields];exact a3.1,by rw [zex];exact a3.2⟩,Obj.data_mapFields a4 _,by simpa using a5,a6,?_,hTe,hsz,?_,by rw [←hob],by rw [←hob],?_⟩
  ·simp [a5]
  ·show (Heap.update _ e _).get? _=_;rw [Heap.get?_update_other _ _ (Ne.symm hTe)];exact qax _ (by rw [←hob];rfl)
  ·simp
 unfold noteFrame;simp only [hf]
 rcases a7 with h1 |⟨T,oT,ts,b1,b2,b3,b4,b5,b6,b7⟩
 ·refine qaa (wpAny_field a2 a4 h1 ?_);rw [if_neg (by decide)]
  exact entry (.refl r) fo a2
 ·refine qaa (wpAny_field a2 a4 b1 ?_);rw [if_pos (show (Value.ref T != Value.none)=true from by simp)]
  refine qaa (wpAny_field b4 b6 (x:=ts[3]) (by simp [b7]) ?_)
  refine wpAny_ite ?_
  split
  ·exact qab (h s (.refl r) ⟨Cl,oe,vs,T,oT,ts,a1,a2,a3,a4,a5,a6,b1,b2,b3,b4,b5,b6,b7⟩)
  ·refine qaa (wpAny_setField b4 b6 b7 ?_);refine ob16 (zdl (i:=3) (x:=Value.none) r b4 b6 (zoD r b4 b5) (zhv hs b3)) ?_;intro st J;refine entry (st.mono fun a q=>q▸b3) (fo.keep st fun l hl L hL q=>?_) ?_
   ·exfalso
    refine ob6 fo ?_;clear fo;intro l' hl' J hfn;rw [hl] at hl';cases hl';refine ob7 (hfn L hL) ?_;intro J o' es n' ho' hd';rw [q,b4] at ho';cases ho';rw [b6] at hd';cases hd'
   ·show (s.heap.update T _).get? e=_;rw [Heap.get?_update_other _ _ b2];exact a2
end
structure SurS (C:Cx) (k:Nat) (af:Bool->Calls) (S:Sc) (env:Env):Prop where
 X:CxOk C
 I:CxIs C
 ca:∀md,CallsOk C k md (af md)
 ev:EnvS S env
 fr:env.frame=some env.locals
theorem SurS.sur {C:Cx} {k:Nat} {af:Bool->Calls} {S:Sc} {env:Env} (U:SurS C k af S env) (md:Bool):Sur C k md (af md) S env:=⟨U.X,U.I,U.ca md,U.ev⟩
def zkZ (A:Around) (env:Env):Prop:=∃outer,A.frames=some (env::outer)
def PostS (C:Cx) (S:Sc) (env:Env) (aa:Store) (s:Shared) (N:Loc->Store->Prop) (R:V->Store->Prop):Flow->Shared->Prop:=fun f s'=>match f with
 |.next=>∃ak ac,N ak ac/\Step C (Own env) aa s ac s'/\LR C ac s'.heap env S.nm ak/\ak.length=S.size
 |.ret v=>∃V ac,R V ac/\VR s'.heap V v/\Step C (Own env) aa s ac s'/\∃ak,LR C ac s'.heap env S.nm ak/\ak.length=S.size
 |_=>False
def PostXS (C:Cx) (S:Sc) (env:Env) (aa:Store) (s:Shared) (X:XL):Value->Shared->Prop:=fun x s'=>
 ∃e c ak ac,x=.ref e/\X c e ak ac/\Step C (Own env) aa s ac s'/\LR C ac s'.heap env S.nm ak/\ak.length=S.size/\Fly C s.heap s'.heap e c/\ac e=none
section
variable {C:Cx} {k:Nat} {md:Bool} {af:Bool->Calls} {S:Sc} {env:Env} {A:Around} {ad:Loc} {aa ae:Store} {s ag:Shared} {N:Loc->Store->Prop} {R:V->Store->Prop} {X:XL}
variable {s':Shared}
theorem Dyn.next {ak:Loc} {ac:Store} (d:Dyn C k md S A env ad aa s) (st:Step C (Own env) aa s ac s') (l:LR C ac s'.heap env S.nm ak) (hl:ak.length=S.size):Dyn C k md S A env ak ac s':=
 d.own st (fun J h=>h) l (hl.trans d.len.symm)
theorem PostS.from {f:Flow} (st:Step C (Own env) aa s ae ag) (h:PostS C S env ae ag N R f s'):PostS C S env aa s N R f s':=by
 cases f with
 |next=>obtain ⟨ak,ac,q,st',r⟩:=h;exact ⟨ak,ac,q,st.trans st',r⟩
 |ret v=>obtain ⟨V,ac,q,hv,st',r⟩:=h;exact ⟨V,ac,q,hv,st.trans st',r⟩
 |_=>exact h.elim
theorem PostXS.from {x:Value} (st:Step C (Own env) aa s ae ag) (h:PostXS C S env ae ag X x s'):PostXS C S env aa s X x s':=by
 refine ob48 h ?_;clear h;intro e c ak ac ee147;subst ee147;intro q st' l hl fl n;exact ⟨e,c,ak,ac,rfl,q,st.trans st',l,hl,fl.older st.h.size,n⟩
theorem ziU {x:Value} (d:Dyn C k md S A env ad ae ag) (st:Step C (Own env) aa s ae ag) (h:PostX C ae ag (fun c a aa=>X c a ad aa) x s'):PostXS C S env aa s X x s':=by
 refine ob5 h ?_;clear h;intro e c ac ee148;subst ee148;intro q st' fl n;exact ⟨e,c,ad,ac,rfl,q,st.trans st'.no,d.l.step st',d.len,fl.older st.h.size,n⟩
theorem evS {t:Sem Value} {Q:V->Store->Prop} {K:Value->Shared->Prop} (d:Dyn C k md S A env ad aa s) (h:wpAny C.M A t (PostV C aa s Q) (PostX C aa s (fun c a aa=>X c a ad aa)) s)
  (kk:∀v V ae ag,Q V ae->VR ag.heap V v->Step C No aa s ae ag->K v ag):wpAny C.M A t K (PostXS C S env aa s X) s:=
 wpAny_mono h (fun v ag ⟨V,ae,q,hv,st⟩=>kk v V ae ag q hv st) fun J J hx=>ziU d (.refl d.r) hx
theorem evS2 {t:Sem Value} {Q:V->Store->Prop} {K:Value->Shared->Prop} (d:Dyn C k md S A env ad aa s) (st:Step C No aa s ae ag) (h:wpAny C.M A t (PostV C ae ag Q) (PostX C ae ag (fun c a aa=>X c a ad aa)) ag)
  (kk:∀v V ah ai,Q V ah->VR ai.heap V v->Step C No ae ag ah ai->Step C No aa s ah ai->K v ai):wpAny C.M A t K (PostXS C S env aa s X) ag:=
 wpAny_mono h (fun v ai ⟨V,ah,q,hv,av⟩=>kk v V ah ai q hv av (st.trans av)) fun J J hx=>ziU (d.step st) st.no hx
theorem Dyn.below (d:Dyn C k md S A env ad aa s):∀a,Own env a->a<s.heap.objs.size:=fun a ha=>by
 refine ob1 (d.l.own a ha) ?_;intro o ho J;exact Heap.lt_size ho
theorem zdj (U:SurS C k af S env) (tf:zkZ A env) (d:Dyn C k md S A env ad aa s) {x:Value} (h:PostXS C S env aa s X x s'):notedBy C.M A env (cameBackBy C.M A env (PostXS C S env aa s X)) x s':=by
 refine ob14 tf ?_;clear tf;intro outer hA;refine ob48 h ?_;clear h;intro e c ak ac ee149;subst ee149;intro q st l hl fl n;have d':=d.next st l hl;have hlow:∀a,Own env a->¬(s.heap.objs.size<=a):=fun a ha=>Nat.not_le.mpr (d.below a ha);refine zg5 (aw:=s.heap) hA U.fr d'.a.frames st.rel d.r.size st.h.size fl n fun ag aS ft=>?_;refine qaa ?_;refine ob49 ft.core ?_;intro Cl oe vs T a1 a2 a3 a4 a6 b1;refine wpAny_field a2 a4 b1 ?_;rw [if_neg (show ¬((Value.ref T==Value.none)=true) from by simp)]
 refine zbm (aw:=s.heap) aS.rel d.r.size ft fun ai av ft₂=>?_;have st12:=aS.trans av;exact ⟨e,c,ak,ac,rfl,q,(((st.mono (D':=fun a=>Own env a\/s.heap.objs.size<=a) fun a h=>.inl h)).trans (st12.mono fun a h=>.inr h)).old,l.keep st12 hlow,hl,ft₂.fly,n⟩
def StP (C:Cx) (st:St):Prop:=∀ ⦃k:Nat⦄ ⦃md:Bool⦄ ⦃af:Bool->Calls⦄ ⦃S:Sc⦄ ⦃x:Stmt⦄ ⦃env:Env⦄ ⦃A:Around⦄ ⦃ad:Loc⦄ ⦃aa:Store⦄ ⦃s:Shared⦄ ⦃N:Loc->Store->Prop⦄ ⦃R:V->Store->Prop⦄ ⦃X:XL⦄,
 SurS C k af S env->zkZ A env->Dyn C k md S A env ad aa s->zmN S st x=true->wpS af md st ad aa N R X->wpAny C.M A (exec x env) (PostS C S env aa s N R) (PostXS C S env aa s X) s
def SsP (C:Cx) (ss:Sts):Prop:=∀ ⦃k:Nat⦄ ⦃md:Bool⦄ ⦃af:Bool->Calls⦄ ⦃S:Sc⦄ ⦃xs:List Stmt⦄ ⦃env:Env⦄ ⦃A:Around⦄ ⦃ad:Loc⦄ ⦃aa:Store⦄ ⦃s:Shared⦄ ⦃N:Loc->Store->Prop⦄ ⦃R:V->Store->Prop⦄ ⦃X:XL⦄,
 SurS C k af S env->zkZ A env->Dyn C k md S A env ad aa s->zbL S ss xs=true->wpSs af md ss ad aa N R X->wpAny C.M A (execs xs env) (PostS C S env aa s N R) (PostXS C S env aa s X) s
theorem zoK:SsP C .nil:=by
 intro k md af S xs env A ad aa s N R X U tf d hm h;dsimp only [zgC,zes] at h;refine l0E hm ?_;intro hm
 ·exact wpAny_execs_nil ⟨ad,aa,h,.refl d.r,d.l,d.len⟩
theorem zng {st:St} {r:Sts} (hs:StP C st) (hr:SsP C r):SsP C (.cons st r):=by
 intro k md af S xs env A ad aa s N R X U tf d hm h;dsimp only [zgC,zes] at h;refine lcE hm ?_;intro x xs hm
 ·simp only [qae] at hm;refine wpAny_execs_cons (wpAny_mono (hs U tf d hm.1 h) (fun f ag ao=>?_) fun J J hx=>hx);cases f with
  |next=>
   refine ob17 ao ?_;clear ao;intro aE ae q st l hl;exact wpAny_mono (hr U tf (d.next st l hl) hm.2 q) (fun J J hx=>hx.from st) fun J J hx=>hx.from st
  |ret v=>exact ao
  |_=>exact ao.elim
theorem zhO {x:PySem.Expr} {tg:Option PySem.Expr} {line:Nat} (h:znv x=true):swapsWith x tg line env=pure false:=by
 cases x<;>first |rfl |exact Bool.noConfusion h
variable {e:Ex}
theorem znd:StP C (.expr e):=by
 intro k md af S x env A ad aa s N R X U tf d hm h;dsimp only [ziq] at h;refine sxME hm ?_;intro x p hm
 ·simp only [qae,Bool.not_eq_true'] at hm;rw [exec_Expr env _ _ (by unfold interactive;rw [U.ev.kind];rfl) (zhO hm.2)]
  refine qaa (wpAny_standAt (qaa (evS d ((zaC e).1 (U.sur md) d hm.1 h) fun v V ae ag q hv st=>?_)));exact wpAny_dropValue ⟨ad,ae,q,st.no,d.l.step st,d.len⟩
theorem zoH:StP C (.ret e):=by
 intro k md af S x env A ad aa s N R X U tf d hm h;dsimp only [zmv] at h;refine zpH hm ?_;intro o p hm;refine o1E hm ?_;intro x hm
 ·exact wpAny_Return_some (evS d ((zaC e).1 (U.sur md) d hm h) fun v V ae ag q hv st=>⟨V,ae,q,hv,st.no,ad,d.l.step st,d.len⟩)
theorem trS {x:Expr} {K:Bool->Shared->Prop} {Kb:Bool->Store->Prop} (U:SurS C k af S env) (d:Dyn C k md S A env ad aa s) (hm:zal S e x=true)
  (h:wpE (af md) md e ad aa (fun v ae=>zam (Mine.Internal.truthy ae v) fun b=>Kb b ae) fun c a ae=>X c a ad ae) (kk:∀b ae ag,Kb b ae->Step C No aa s ae ag->K b ag):wpAny C.M A (isTrue x env (eval x env)) K (PostXS C S env aa s X) s:=by
 refine wpAny_mono ((zaC e).2.1 (U.sur md) d hm h fun V ac q=>?_) (fun b ag ao=>?_) fun J J hx=>ziU d (.refl d.r) hx
 ·refine ob1 (zai q) ?_;intro b hb J;exact ⟨b,hb⟩
 ·refine ob2 ao ?_;clear ao;intro V ae q hb st;refine ob1 (zai q) ?_;intro b' hb' q;rw [hb] at hb';cases hb';exact kk b ae ag q st
theorem zoI {c:Ex} {th el:Sts} (hth:SsP C th) (hel:SsP C el):StP C (.iff c th el):=by
 intro k md af S x env A ad aa s N R X U tf d hm h;dsimp only [zmw] at h;refine zpJ hm ?_;intro x b o p hm
 ·simp only [qae] at hm;refine wpAny_If (trS U d hm.1.1 h fun b ae ag q st=>?_);cases b with
  |true=>exact wpAny_mono (hth U tf (d.step st) hm.1.2 q) (fun J J hx=>hx.from st.no) fun J J hx=>hx.from st.no
  |false=>exact wpAny_mono (hel U tf (d.step st) hm.2 q) (fun J J hx=>hx.from st.no) fun J J hx=>hx.from st.no
theorem zlr {c:Ex} {body:Sts} (hb:SsP C body):StP C (.whil c body):=by
 intro k md af S x env A ad aa s N R X U tf d hm h;dsimp only [zin] at h;refine zpF hm ?_;intro x b o p hm;refine l0E hm ?_;intro hm
 ·simp only [qae] at hm;refine ob14 h ?_;clear h;intro n h;refine wpAny_While (codeAny_whileLoop (fun n s'=>∃ak ac,Step C (Own env) aa s ac s'/\LR C ac s'.heap env S.nm ak/\ak.length=S.size/\zdQ (fun ad aa K=>wpE (af md) md c ad aa (fun v ae=>zam (Mine.Internal.truthy ae v) fun b=>K b ae) fun c a ae=>X c a ad ae)
   (fun ad aa K=>wpSs af md body ad aa K R X) N n ak ac) ?_ n ⟨ad,aa,.refl d.r,d.l,d.len,h⟩)
  intro n s' zz8;refine ob17 zz8 ?_;clear zz8;intro ak ac st l hl h;have d':=d.next st l hl;cases n with
  |zero=>exact h.elim
  |succ n=>
   refine wpAny_mono (trS (X:=X) (K:=fun b ai=>∃ah,(if b=true then wpSs af md body ak ah (fun aE ae=>zdQ _ _ N n aE ae) R X else N ak ah)/\Step C No ac s' ah ai) U d' hm.1 h fun b ah ai q av=>⟨ah,q,av⟩) (fun b ai aB=>?_) fun J J hx=>zdj U tf d (hx.from st)
   refine ob1 aB ?_;clear aB;intro ah q av;cases b with
   |false=>
    exact wpAny_execs_nil ⟨ak,ah,q,st.trans av.no,l.step av,hl⟩
   |true=>
    refine wpAny_mono (hb U tf (d'.step av) hm.2 q) (fun f az aA=>?_) fun J J hx=>zdj U tf d (hx.from (st.trans av.no));cases f with
    |next=>
     refine ob17 aA ?_;clear aA;intro a8 aq q aC bc aU;exact ⟨n,Nat.lt_succ_self _,a8,aq,(st.trans av.no).trans aC,bc,aU,q⟩
    |ret v=>exact aA.from (st.trans av.no)
    |_=>exact aA.elim
/- stores -/
theorem zcX {tg x:Expr} {pos:Pos} {Q:Flow->Shared->Prop} {E:Value->Shared->Prop} (hs:swapsWith x (some tg) pos.line env=pure false) (hw:swappedStores [tg] x env=pure none) (ht:assignEach [tg] env=[(false,assign tg env)])
  (h:wpAny C.M A (eval x env) (fun v ag=>wpAny C.M A (assign tg env v) (fun J ai=>Q .next ai) E ag) E s):wpAny C.M A (exec (.Assign [tg] x pos) env) Q E s:=by
 rw [arm_exec_Assign];refine qaa (wpAny_standAt ?_);show wpAny C.M A (swapsWith x (some tg) pos.line env >>= _) _ _ _;rw [hs];refine qaa (qab ?_);simp only [Bool.false_eq_true,if_false];refine qaa (wpAny_mono h (fun v ag ao=>?_) fun J J hx=>hx);rw [hw,ht];refine qaa (qab ?_);show wpAny C.M A (assign tg env v >>= fun J=>pure Flow.next) _ _ _;exact qaa (wpAny_mono ao (fun J J aB=>qab aB) fun J J hx=>hx)
theorem zdg {tg x:PySem.Expr} (hc:zo8 x=false\/∀ts k p,tg≠.Tuple ts k p) (hl:∀ts p,tg≠.List ts p):swappedStores [tg] x env=pure none:=by
 cases tg with
 |Tuple ts k p=>
  have hc:=hc.resolve_right fun g=>g ts k p rfl;cases x<;>first |rfl |exact Bool.noConfusion hc
 |List ts p=>exact absurd rfl (hl ts p)
 |_=>rfl
theorem zml {t:Tg} {tg:Expr} (hm:zd5 S t tg=true):assignEach [tg] env=[(false,assign tg env)]/\(∀ts p,tg≠.List ts p)/\(zoB t=true->∀ts k p,tg≠.Tuple ts k p):=by
 cases t with
 |one i=>exact nmME hm fun J J J=>⟨rfl,fun J J q=>(by cases q),fun J J J J q=>(by cases q)⟩
 |many is=>exact tuME hm fun J J J J=>⟨rfl,fun J J q=>(by cases q),fun q=>(by cases q)⟩
theorem zhh (h:zh5 e=true):∃bs elt t it cond,e=.comp bs elt t it cond:=by
 cases e with
 |comp=>exact ⟨_,_,_,_,_,rfl⟩
 |_=>exact Bool.noConfusion h
theorem zjK {t:Tg}:StP C (.assign t e):=by
 intro k md af S x env A ad aa s N R X U tf d hm h;dsimp only [zdP] at h;refine znm hm ?_;intro ts x pos hm;refine l1E hm ?_;intro tg hm
 ·simp only [qae,Bool.or_eq_true,Bool.not_eq_true'] at hm;refine lift fun g9 k9=>?_;refine ob41 hm ?_;clear hm;intro hT hE hor hnl;refine ob16 (zbG h) ?_;intro htg h;refine ob19 (zml (env:=env) hT) ?_;intro e1 e2 e3
  apply k9
  clear k9 g9;have plain:swapsWith x (some tg) pos.line env=pure false->wpAny C.M A (exec (.Assign [tg] x pos) env) (PostS C S env aa s N R) (PostXS C S env aa s X) s:=fun hsw=>by
   refine zcX hsw (zdg ?_ e2) e1 (evS d ((zaC e).1 (U.sur md) d hE h) fun v V ae ag q hv st=>?_)
   ·rcases hor with ho |ho
    ·exact .inr (e3 ho)
    ·exact .inl ho.1
   ·refine ob1 (zai q) ?_;intro ak hb q;exact zer (P:=Own env) (U.sur md) (d.step st) hT hv hb htg (fun id i J J a ha=>ha.own) fun ai av aR=>⟨ak,ae,q,st.no.trans av,aR.l,aR.len⟩
  cases hc:zh5 e with
  |false=>exact plain (zhO (hnl.resolve_left fun z=>Bool.noConfusion (z.symm.trans hc)))
  |true=>
   rcases hor with ho |ho
   ·refine ob50 (zhh hc) ?_;intro bs elt tt it cond ee150;subst ee150;refine ob46 (zeW hE) ?_;intro x tg' y ifs scope pos' ee151;subst ee151
    ·cases t with
     |many _=>cases ho
     |one i=>
      have hT:(nmM tg fun id=>S.own id i)=true:=hT;obtain ⟨id,p,rfl,hT⟩:∃id p,tg=.Name id p/\S.own id i=true:=by
       refine nmME hT ?_;intro id p hT;exact ⟨id,p,rfl,hT⟩
      ·
       have hsb:∃b,swapsWith (.ListComp x [⟨tg',y,ifs,0⟩] scope pos') (some (.Name id p)) pos.line env=pure b:=⟨_,rfl⟩;refine ob14 hsb ?_;clear hsb;intro b hsb;cases b with
       |false=>exact plain hsb
       |true=>
        rw [exec_Assign_Name_used id p _ pos hsb];refine qaa (wpAny_standAt (qaa ?_));show wpAny C.M A (comprehension (.ListComp x [⟨tg',y,ifs,0⟩] scope pos') scope env y.pos (newList []) false (eval y env) (some (assign (.Name id p) env)) >>= fun J=>pure ()) _ _ _;refine qaa (zgp (QQ:=fun J s'=>wpAny C.M A (pure ():Sem Unit) (fun J ag=>wpAny C.M A (pure Flow.next) (PostS C S env aa s N R) (PostXS C S env aa s X) ag) (PostXS C S env aa s X) s') (zaC it).2.2 (zaC elt).1 (zmu cond).2 (U.sur md) d hE h (fun J J hx=>ziU d (.refl d.r) hx) fun acc L s' hc=>?_);refine ob51 hc ?_;clear hc;intro ac q st m hm hn hb hl;refine ob1 (zai q) ?_;intro ak hbb q;simp only [zay,Option.some.injEq] at hbb;subst hbb;refine wpAny_assign_Name (zci (U.sur md) (d.step st) hT .ref fun ai av aR=>?_);have hmc:=hm;refine ob10 hmc ?_;clear hmc;intro o es ep ho' hd' hr';have hLno:¬OwnAt env id L:=fun hx=>absurd (d.below L hx.own) (Nat.not_lt.mpr hl);have hm2:ai.heap.Ns L m:=zj0 hm ho' (av.h.keep L o ho' fun z=>z.elim (fun z=>z hn) hLno);refine ⟨m,hm2,fun h' hs'=>qab (qab ?_)⟩;have hmc2:=hm2;refine ob10 hmc2 ?_;clear hmc2;intro o2 es2 ep2 ho2 hd2 J;have st3:Step C (· = L) ac ai ac { ai with heap:=h' }:=Step.oneBut (t:=ai.toks) av.rel hs' hn hb rfl ho2 fun ⟨_,_,_,z⟩=>(by rw [hd2] at z;cases z)
        have tot:Step C (fun a=>Own env a\/s.heap.objs.size<=a) aa s ac { ai with heap:=h' }:=(st.no.trans (av.mono fun a ha=>.inl ha.own)).trans (st3.mono fun a ha=>.inr (ha▸hl));exact ⟨_,ac,q,tot.old,aR.l.keep st3 fun a ha hx=>absurd (d.below a ha) (Nat.not_lt.mpr (hx▸hl)),aR.len⟩
   ·rw [ho.2] at hc;cases hc
theorem ziI {o:Ex} {name:String}:StP C (.setattr o name e):=by
 intro k md af S x env A ad aa s N R X U tf d hm h;dsimp only [zdf] at h;refine znm hm ?_;intro ts y pos hm;refine l1E hm ?_;intro tg hm;refine atME hm ?_;intro x id p hm
 ·simp only [qae,qaq] at hm;refine ob18 hm ?_;clear hm;intro ee152;subst ee152;intro h1 h2;refine zcX (by cases y<;>rfl) (zdg (.inr fun J J J q=>by cases q) fun J J q=>by cases q) rfl (evS d ((zaC e).1 (U.sur md) d h2 h) fun v V ae ag q hv st=>?_)
  rw [arm_assign_Attribute];refine qaa (wpAny_holding (evS2 d st ((zaC o).1 (U.sur md) (d.step st) h1 q) fun u V' ah ai q hu av st'=>qaa (wpAny_standAt (qaa (wpAny_holding ?_)))));refine wpAny_mono (ziR U.X st'.rel hu (av.vr hv) (fun c=>(U.ca md).fld c name) q) (fun J az aA=>wpAny_release' ?_) fun J J hx=>hx;refine ob1 aA ?_;clear aA;intro aq q aC;exact ⟨ad,aq,q,(st'.trans aC).no,d.l.step (st'.trans aC),d.len⟩
theorem ziH {o i:Ex}:StP C (.setitem o i e):=by
 intro k md af S x env A ad aa s N R X U tf d hm h;dsimp only [zde] at h;refine znm hm ?_;intro ts z pos hm;refine l1E hm ?_;intro tg hm;refine suME hm ?_;intro x y p hm
 ·simp only [qae] at hm;refine ob18 hm ?_;clear hm;intro h1 h2 h3;refine zcX (by cases z<;>rfl) (zdg (.inr fun J J J q=>by cases q) fun J J q=>by cases q) rfl (evS d ((zaC e).1 (U.sur md) d h3 h) fun v V ae ag q hv st=>?_)
  rw [arm_assign_Subscript];refine qaa (wpAny_holding (evS2 d st ((zaC o).1 (U.sur md) (d.step st) h1 q) fun u Vu ah ai q hu av st'=>qaa (wpAny_holding (evS2 d st' ((zaC i).1 (U.sur md) (d.step st') h2 q) fun w Vw aq az q hw aC st''=>qaa (wpAny_standAt (qaa (wpAny_holding ?_)))))));have hu8:A.units+8<cLine:=by have:=zgt d;lia
  refine wpAny_mono (ziP hu8 st''.rel (aC.vr hu) hw (aC.vr (av.vr hv)) q) (fun J aP aN=>wpAny_release' ?_) fun J J hx=>hx;refine ob1 aN ?_;clear aN;intro aF q a9;exact ⟨ad,aF,q,(st''.trans a9).no,d.l.step (st''.trans a9),d.len⟩
end
section
variable {C:Cx} {k:Nat} {md:Bool} {af:Bool->Calls} {S:Sc} {env:Env} {A:Around} {ad:Loc} {aa ae:Store} {s ag:Shared} {N:Loc->Store->Prop} {R:V->Store->Prop} {X:XL}
theorem zho {RR:Result->Shared->Prop} {target:Expr} {it:Value} {body:List Stmt} (I:Nat->Shared->Prop)
  (turn:∀n s,I n s->wpAny C.M A (pyNext it) (fun r ag=>match r with
   |none=>RR (.ok .next) ag
   |some v=>wpAny C.M A (letOwnedTupleGo target it v) (fun J ag=>wpAny C.M A (assign target env v) (fun J ai=>wpAny C.M A (execs body env) (fun f az=>match f with
     |.next |.cont=>∃m,m<n/\I m az
     |.brk=>RR (.ok .next) az
     |.ret v=>RR (.ok (.ret v)) az) (notedBy C.M A env fun e s'=>RR (.error e) s') ai) (fun J J=>False) ag) (fun J J=>False) ag) (fun J J=>False) s)
  (n:Nat) (h:I n s):codeAny C.M A (.forLoop target it body [] env) RR s:=by
 refine codeAny_loop' rfl I (fun n s hI=>?_) n h;show wpAny _ _ ((forTurn target it body [] env).onRaise (fun x=>do noteFrame x env;theTreesLotGoes x)) _ _ s
 refine wpAny_noted ?_;simp only [forTurn];refine qaa (wpAny_standAt (qaa (wpAny_onRaise (wpAny_mono (turn n s hI) (fun r ag ao=>?_) fun J J h'=>h'.elim))));cases r with
 |none=>exact qab (.inr ⟨rfl,codeAny_block (wpAny_execs_nil ao)⟩)
 |some v=>
  refine qaa (wpAny_mono ao (fun J ag ao=>?_) fun J J h'=>h'.elim);refine qaa (wpAny_mono ao (fun J ai aB=>qaa (wpAny_mono aB (fun f az aA=>?_) fun J J h'=>h')) fun J J h'=>h'.elim);cases f with
  |next=>exact qab (.inl ⟨rfl,aA⟩)
  |cont=>exact qab (.inl ⟨rfl,aA⟩)
  |brk=>exact qab aA
  |ret v=>exact qab aA
def fB (af:Bool->Calls) (md:Bool) (t:Tg) (body:Sts) (R:V->Store->Prop) (X:XL):V->Loc->Store->(Loc->Store->Prop)->Prop:=
 fun v ad aa K=>zam (zay t v ad) fun ak=>wpSs af md body ak aa K R X
variable {body:Sts}
theorem zoJ {t:Tg} {it:Ex} (hb:SsP C body):StP C (.for t it body):=by
 intro k md af S x env A ad aa s N R X U tf d hm h;dsimp only [zmx] at h;refine zpK hm ?_;intro tg y b o pos hm;refine l0E hm ?_;intro hm
 ·simp only [qae] at hm;refine ob18 hm ?_;clear hm;intro hT h1 h2;refine ob16 (zbG h) ?_;intro hmd h;refine wpAny_For ?_ (fun v=>zgk h1 v);refine wpAny_mono ((zaC it).2.2 (U.sur md) d h1 hmd h) (fun v ag ao=>wpAny_mono ao (fun v ai aB=>?_) fun J J hx=>ziU d (.refl d.r) hx) fun J J hx=>ziU d (.refl d.r) hx;refine ob45 aB ?_;clear aB;intro I wr items chk St Mid ah ee153;subst ee153;intro W hst hold hwr st q;have hOwr:∀a,Own env a->¬a∈wr:=fun a ha hb=>absurd (d.below a ha) (Nat.not_lt.mpr (hwr a hb));refine zho (fun n s'=>∃i ak ac,n=items.length-i/\i<=items.length/\St i s'.heap/\Hold C wr ac s'.heap/\Step C (fun a=>Own env a\/s.heap.objs.size<=a) aa s ac s'/\Dyn C k md S A env ak ac s' /\
   forV chk (fB af md t body R X) N (items.drop i) ak ac) ?_ items.length ⟨0,ad,ah,by lia,Nat.zero_le _,hst,hold,st.no,d.step st,q⟩
  clear q hst hold st;intro n s' zz9;refine ob3 zz9 ?_;clear zz9;intro i ak ac ee154;subst ee154;intro hi hst hold tot d' q
  by_cases hlt:i<items.length
  ·rw [List.drop_eq_getElem_cons hlt] at q;refine ob16 q ?_;clear q;intro hc q;refine ob1 (zai q) ?_;intro aE hbd q;refine W.next hlt hst d'.r hold hc fun v ag hgo=>hgo _ _ fun ai hv stw hst' hold'=>?_;have d2:Dyn C k md S A env ak ac ai:=d'.apart (n:=s.heap.objs.size) stw d.a.low (fun a ha=>hwr a ha) hOwr;refine zer (P:=Own env) (U.sur md) d2 hT hv hbd (by cases t<;>first |trivial |exact hmd) (fun id i J J a ha=>ha.own) fun az st3 d3=>?_
   have tot3:Step C (fun a=>Own env a\/s.heap.objs.size<=a) aa s ac az:=(tot.trans (stw.mono fun a ha=>.inr (hwr a ha))).trans (st3.mono fun a ha=>.inl ha);refine ob16 (hold'.step st3 fun b hb ha=>hOwr b ha hb) ?_;intro hold3 kp3;refine wpAny_mono (hb U tf d3 h2 q) (fun f aP aN=>?_) fun J J hx=>zdj U tf d (hx.from tot3.old);cases f with
   |next=>
    refine ob17 aN ?_;clear aN;intro ρ₄ aF q st4 l4 hl4;refine ob16 (hold3.step st4 fun b hb ha=>hOwr b ha hb) ?_;intro hold4 kp4;exact ⟨items.length-(i+1),by lia,i+1,ρ₄,aF,rfl,hlt,W.frame _ _ _ (W.frame _ _ _ hst' st3.h.tup kp3) st4.h.tup kp4,hold4,tot3.trans (st4.mono fun a ha=>.inl ha),d3.next st4 l4 hl4,q⟩
   |ret v=>exact aN.from tot3.old
   |_=>exact aN.elim
  ·have hi':i=items.length:=by lia
   subst hi';rw [List.drop_length] at q;refine W.stop hst d'.r hold q.1 fun ag stw=>?_;have d2:Dyn C k md S A env ak ac ag:=d'.apart (n:=s.heap.objs.size) stw d.a.low (fun a ha=>hwr a ha) hOwr;exact ⟨ak,ac,q.2,(tot.trans (stw.mono fun a ha=>.inr (hwr a ha))).old,d2.l,d2.len⟩
set_option tactic.hygienic true in
theorem zls {c msg:String}:StP C (.raise c msg):=by
 intro k md af S x env A ad aa s N R X U tf d hm h;dsimp only [zfB] at h;refine zpI hm ?_;intro o c' pos hm;refine o0E hm ?_;intro hm;refine o1E hm ?_;intro x hm;refine ncME hm ?_;intro id np xs cpos hm;refine l1E hm ?_;intro y hm;refine cME hm ?_;intro cc kk mp hm;cases cc<;>first |exact absurd hm qan |skip;rename_i m
 ·refine ob18 h ?_;clear h;intro hmd hc h;refine ob52 (U.I.own c hc) ?_;intro Cl B newId initId bm hcl FB O;have O':=O.keeps d.r.stays;refine lift fun g9 k9=>?_;obtain ⟨tl,Nn,nm,q,bs,hdct,sn,sub,ab,col,dd,k0,k1,k2,k3,k5,mN,hC,hN,hni,T⟩:=O'.obj
  apply k9
  clear k9 g9;refine zez (wpAny_Raise_call_subT (C:=Cl) (nm:=nm) (q:=q) (N:=Nn) (bs:=bs) (bm:=tl) (hdct:=hdct) (sn:=sn) (sub:=sub) (ab:=ab) (col:=col) (dd:=dd) (k0:=k0) (k1:=k1) (k2:=k2) (k3:=k3) (k5:=k5)
   FB (mN:=mN) (T.hasType FB.hasBase) (d.a.handled hmd) (by rfl) hni (zeT (U.sur md) d.r hm O.bound ⟨rfl,?_⟩))
  refine evalArgs_plain (spliced_cons (wpAny_Constant_str (k:=kk) (pos:=mp) (spliced_nil ⟨rfl,by show 1<=sizeLine;decide,hC,hN,T,fun h' e hx dead=>?_⟩)))
  refine ob6 hx.there ?_;intro t he hte htu;have big:s.heap.objs.size<=e:=by
   by_cases hlt:e<s.heap.objs.size
   ·have:=dead.dead e hlt hx.new;rw [show ({ s with heap:=h',toks:=s.toks+1 }:Shared).heap=h' from rfl] at this;rw [he] at this;cases this
   ·exact Nat.not_lt.mp hlt
  have st:Step C No aa s aa { s with heap:=h',toks:=s.toks+1 }:=.grow d.r hx.keeps dead.size;have hn:=d.r.none_of_ge big;exact ⟨e,c,ad,aa,rfl,h e hn,st.no,d.l.step st,d.len,⟨Cl,_,_,⟨hcl,hc⟩,he,⟨rfl,rfl⟩,rfl,by simp,big,.inl (by simp)⟩,hn⟩
theorem zhl {e:Value} {n:Str} {br:Stmt} {body:List Stmt} {pos:Pos} {RR:Result->Shared->Prop}
  (h:wpAny C.M A (setFlight e none) (fun J ag=>wpAny C.M A (storeName env n e) (fun J ai=>wpAny C.M A (execs (br::body) env) (fun f az=>RR (.ok f) az) (fun J J=>False) ai) (fun J J=>False) ag) (fun J J=>False) s) :
  codeAny C.M A (.handlers e [.ExceptHandler none (some n) (br::body) pos] env) RR s:=by
 refine codeAny_of_tree ?_;show wpAny _ A (do return Fin.done (←(handleWith e env [.ExceptHandler none (some n) (br::body) pos]).onRaise (fun x=>do noteFrame x env;theTreesLotGoes x))) _ _ s
 refine qaa (wpAny_noted ?_);unfold handleWith;refine qaa (wpAny_standAt (qaa (wpAny_mono h (fun J ag ao=>?_) fun J J x=>x.elim)));refine qaa (wpAny_bindName (wpAny_mono ao (fun J ai aB=>?_) fun J J x=>x.elim));refine qaa (wpAny_attempt (wpAny_mono aB (fun f az aA=>?_) fun J J x=>x.elim));exact qab (qab aA)
theorem Dyn.adopt {n:Nat} {e:Addr} {o:AO} (d:Dyn C k md S A env ad aa s) (r:Rel C (aa.upd e o) s.heap) (hO:∀a,Own env a->a≠e) (low:Low A n) (hn:n<=e):Dyn C k md S A env ad (aa.upd e o) s:=by
 refine ⟨⟨?_,d.a.handled,d.a.depth,d.a.units⟩,r,⟨d.l.holds,d.l.locals,⟨?_,d.l.lnew.2⟩,fun x c hc=>?_,d.l.apart⟩,d.len⟩
 ·refine ob6 d.a.frames ?_;intro l hl hf hfn;exact ⟨l,hl,hf,fun L hL=>⟨by rw [zbr (Nat.ne_of_lt (Nat.lt_of_lt_of_le (low l hl L hL) hn))];exact (hfn L hL).1,(hfn L hL).2⟩⟩
 ·rw [zbr (hO _ (.inl rfl))];exact d.l.lnew.1
 ·refine ob19 (d.l.cells x c hc) ?_;intro h1 h2 h3;exact ⟨h1,by rw [zbr (hO _ (.inr ⟨x,hc⟩))];exact h2,h3⟩
theorem Dyn.marked {v:Value} (d:Dyn C k md S A env ad aa s):Dyn C k false S (A.mark (some v)) env ad aa s:=⟨⟨d.a.frames,fun q=>(by cases q),d.a.depth,d.a.units⟩,d.r,d.l,d.len⟩
theorem Dyn.unmark {v:Option Value} (d:Dyn C k false S (A.mark v) env ad aa s):Dyn C k false S A env ad aa s:=⟨⟨d.a.frames,fun q=>(by cases q),d.a.depth,d.a.units⟩,d.r,d.l,d.len⟩
def HsP (C:Cx) (hs:Hs):Prop:=∀ ⦃k:Nat⦄ ⦃af:Bool->Calls⦄ ⦃S:Sc⦄ ⦃xs:List ExceptHandler⦄ ⦃env:Env⦄ ⦃A:Around⦄ ⦃ad aI:Loc⦄ ⦃aa aQ:Store⦄ ⦃s aG:Shared⦄ ⦃N:Loc->Store->Prop⦄ ⦃R:V->Store->Prop⦄ ⦃X:XL⦄ ⦃e:Addr⦄ ⦃c:String⦄,
 SurS C k af S env->zkZ A env->Dyn C k true S A env aI aQ aG->Dyn C k true S A env ad aa s->Step C (fun a=>Own env a\/aG.heap.objs.size<=a) aQ aG aa s->FlyT C aG.heap s.heap e c->c∈excNames->aa e=none ->
  zg9 S hs xs=true->wpHs af hs c e ad aa N R X->wpAny C.M A (handleBy (.ref e) env xs) (PostS C S env aQ aG N R) (PostXS C S env aQ aG X) s
theorem zpb:HsP C .nil:=by
 intro k af S xs env A ad aI aa aQ s aG N R X e c U tf aO d tot ft hc hn hm h;dsimp only [zk4,zgH] at h;refine l0E hm ?_;intro hm
 ·refine wpAny_handleBy_nil ?_;unfold PySem.passOn;refine ob49 ft.core ?_;intro Cl oe vs T a1 a2 a3 a4 a6 b1;refine qaa (wpAny_field a2 a4 b1 ?_);rw [if_neg (show ¬((Value.ref T==Value.none)=true) from by simp)]
  refine qaa (zbm (aw:=aG.heap) d.r aO.r.size ft fun ag aS bA=>?_);refine wpAny_throw ?_;have hlow:∀a,Own env a->¬(aG.heap.objs.size<=a):=fun a ha=>Nat.not_le.mpr (aO.below a ha);exact ⟨e,c,ad,aa,rfl,h,(tot.trans (aS.mono fun a ha=>.inr ha)).old,d.l.keep aS hlow,d.len,bA.fly,hn⟩
theorem zgn {α:Type} {P:α->Bool}:∀{l:List α} {i:Nat},(∀a,l[i]?=some a->P a=false)->(l.eraseIdx i).find? P=l.find? P
 | [],_,_=>rfl
 |a::l,0,h=>by rw [List.eraseIdx_cons_zero,List.find?_cons,h a rfl]
 |a::l,i+1,h=>by
  rw [List.eraseIdx_cons_succ,List.find?_cons,List.find?_cons,zgn (l:=l) (i:=i) fun b hb=>h b hb]
theorem zlK {E:Value->Shared->Prop} {a:Addr} {m:Str->Option Value} {name:Str} {Q:Bool->Shared->Prop} (hn:s.heap.Ns a m) (hin:(m name).isSome=true)
  (hQ:∀h' m',h'.Ns a m'->(∀x,x≠name->m' x=m x)->Heap.SameBut a s.heap h'->Q true { s with heap:=h' }):wpAny C.M A (nsDel a name) Q E s:=by
 refine ob4 (id hn) ?_;intro o es ep ho hd hk hm;have hany:es.any (·.refKey)=false:=by
  rw [Array.any_eq_false'];intro e he;obtain ⟨n,t,h⟩:=hk e he;simp [DictEntry.refKey,h]
 have hidx:∃i,es.findIdx? (·.key.isStr name)=some i:=by
  rw [←hm name] at hin;unfold nsFind at hin;rw [findBy_of_findIdx?] at hin;cases e:es.findIdx? (fun e=>e.key.isStr name) with
  |some i=>exact ⟨i,rfl⟩
  |none=>rw [e] at hin;cases hin
 refine ob14 hidx ?_;clear hidx;intro i hi;have hsome:es.any (·.key.isStr name)=true:=by
  refine ob1 (Array.findIdx?_eq_some_iff_getElem.mp hi) ?_;intro hlt h1 J;exact Array.any_eq_true.mpr ⟨i,hlt,h1⟩
 have hhas:nsHas name o=pure true:=by
  rw [nsHas_eq];unfold nsHasByArray;rw [hd];show (if (es.any fun x=>x.key.isStr name)=true then _ else _)=_
  rw [if_pos hsome]
 unfold nsDel;refine qaa (wpAny_loadPart ho ?_);rw [hhas];refine qaa (qab ?_);rw [if_pos rfl];refine qaa (wpAny_updatePart ho (qab ?_));refine lift fun g9 k9=>?_;obtain ⟨cl,d,dt,sl⟩:=o
 apply k9
 clear k9 g9;subst hd;refine hQ _ (nsFind (es.eraseIdxIfInBounds i)) ⟨_,_,ep+1,Heap.get?_update_self _ ho (by simp only [Obj.dropName_eq,Obj.dropNameByArray,hi]<;>rfl),(by simp only [Obj.dropName_eq,Obj.dropNameByArray,hi]<;>rfl),hk.erase i,fun J=>rfl⟩ (fun x hx=>?_) (Heap.SameBut.update ..)
 rw [←hm x]
 rcases es with ⟨l⟩
 simp only [nsFind,findBy,List.eraseIdxIfInBounds_toArray,List.find?_toArray,List.findIdx?_toArray] at hi ⊢;rw [zgn];intro en hen;refine ob1 (List.findIdx?_eq_some_iff_getElem.mp hi) ?_;intro hlt h1 J;rw [qas hlt] at hen;cases hen;cases e:(l[i].key.isStr x) with
 |false=>rfl
 |true=>exact absurd (Value.isStr_inj _ _ _ e h1) hx
theorem zfK {E:Value->Shared->Prop} {x:Nat} {n:Str} {pos:Pos} {v:Option Value} {Q:Unit->Shared->Prop} (U:SurS C k af S env) (d:Dyn C k false S (A.mark v) env ad aa s) (hown:S.own n x=true) (hloc:S.names.lookup n=some .local)
  (h:∀s',Step C (Own env) aa s aa s'->LR C aa s'.heap env S.nm (ad.set x none)->Q () s'):wpAny C.M A (do bindName env n .none;unbindBehindTheSuite env n pos) Q E s:=by
 refine qaa (wpAny_bindName (zci (v:=.none) (U.sur false) d.unmark hown .none fun aP a9 aV=>?_));unfold unbindBehindTheSuite;refine wpAny_onRaise ?_;refine ob6 (Sc.own_elim hown) ?_;intro y ee155;subst ee155;intro hyn J;have hi:x<ad.length:=by rw [d.len];exact U.ev.nm.2 y x hyn
 have hh:=aV.l.holds y x .none hyn (by rw [Loc.get_set_self hi])
 have hkn:env.kindOf (Str.ofString y)=some .local:=by rw [U.ev.kindOf];exact hloc
 unfold Holds at hh;rw [hkn] at hh;refine ob2 hh ?_;clear hh;intro m u hm hmu J;unfold unbindName deleteName;refine qaa (wpAny_point (qaa ?_));simp only [hkn,U.ev.kind];refine qaa (m:=nsDel env.locals (Str.ofString y)) (zlK hm (by rw [hmu];rfl) fun h' m' hn' hmm hs'=>?_)
 refine qab (wpAny_point ?_);refine ob10 (id hm) ?_;intro o es ep ho hd J;have st5:Step C (Own env) aa aP aa { aP with heap:=h' }:=Step.oneBut (t:=aP.toks) a9.rel hs' aV.l.lnew.1 aV.l.lnew.2 (.inl rfl) ho fun ⟨_,_,_,z⟩=>(by rw [hd] at z;cases z)
 have hcell:∀c w,aP.heap.IsCell c w->h'.IsCell c w:=fun c w hw=>hw.sameBut hs' fun q=>by
  refine ob1 hw ?_;clear hw;intro ow how hdw;rw [q,ho] at how;cases how;rw [hd] at hdw;cases hdw
 refine h _ ((a9.mono fun a ha=>ha.own).trans st5) ⟨fun z i w hz hw=>?_,⟨m',hn'⟩,aV.l.lnew,fun z cc hcc=>?_,aV.l.apart⟩
 ·by_cases e:i=x
  ·subst e;rw [Loc.get_set_self hi] at hw;cases hw
  ·rw [Loc.get_set_ne e] at hw;refine (aV.l.holds z i w hz (by rw [Loc.get_set_ne e];exact hw)).frame st5.h.tup (fun J bE bp h1 h2=>?_) fun c u J hc=>hcell c u hc
   rw [←zfY hm h1] at h2;refine ⟨m',hn',?_⟩;rw [hmm _ fun q=>?_]
   ·exact h2
   ·have:=ofString_inj q;subst this;rw [hyn] at hz;cases hz;exact e rfl
 ·refine ob15 (aV.l.cells z cc hcc) ?_;intro w hw r2;exact ⟨⟨w,hcell cc w hw⟩,r2⟩
theorem znN {D:String} {x:Nat} {r:Hs} (hb:SsP C body) (hr:HsP C r):HsP C (.cons D x body r):=by
 intro k af S xs env A ad aI aa aQ s aG N R X e c U tf aO d tot ft hc hn hm h;dsimp only [zk4,zgH] at h;refine lcE hm ?_;intro hh xs hm;refine exME hm ?_;intro hid np n bd pos hm;refine lcE hm ?_;intro br bs hm
 ·simp only [qae,qaq,beq_iff_eq] at hm;refine lift fun g9 k9=>?_;refine ob38 hm ?_;clear hm;intro hD hg hown hloc hbd hrest;refine ob52 (U.I.own D hD) ?_;intro Dl J J J J hDl J O;refine ob49 ft.core ?_;intro Cl oe vs T a1 a2 a3 a4 a6 b1
  apply k9
  clear k9 g9;have hlow:∀a,Own env a->¬(aG.heap.objs.size<=a):=fun a ha=>Nat.not_le.mpr (aO.below a ha);refine wpAny_handleBy_cons (codeAny_handlers_test (zeT (A:=A.mark (some (.ref e))) (U.sur true) d.r hg O.bound (U.I.excm hc hD d.r.stays a1.1 hDl a2 a3.1 a4 ?_))) (by intro q;cases q)
  by_cases hcd:c=D
  ·rw [if_pos hcd] at h;rw [qaf hcd];refine zhl (zbm (aw:=aG.heap) d.r aO.r.size ft fun ag aS bA=>?_);have tot1:Step C (fun a=>Own env a\/aG.heap.objs.size<=a) aQ aG aa ag:=tot.trans (aS.mono fun a ha=>.inr ha);refine ob49 bA.core ?_;intro Cl' oe' vs' T' c1 c2 c3 c4 c6 c7;have tot1':Step C (fun a=>Own env a\/aG.heap.objs.size<=a) aQ aG (aa.upd e (.exc c)) ag:=tot1.adopt (o:=.exc c) a6 hn ⟨Cl',oe',vs',c1.1,c2,c3,c4⟩ (qak aO.r.size a6);have dm:Dyn C k true S A env ad aa ag:=d.apart (n:=aG.heap.objs.size) aS aO.a.low (fun a ha=>ha) hlow;have da:Dyn C k true S A env ad (aa.upd e (.exc c)) ag:=dm.adopt (n:=aG.heap.objs.size) tot1'.rel (fun a ha=>Nat.ne_of_lt (Nat.lt_of_lt_of_le (aO.below a ha) a6)) aO.a.low a6;have dk:=da.marked (v:=.ref e);refine zci (U.sur false) dk hown .ref fun ai av aR=>?_;refine wpAny_mono (hb U tf aR hbd h) (fun f az aA=>?_) fun J J hx=>(by obtain ⟨_,_,_,_,_,f,_⟩:=hx;exact f)
   have fin:∀{aq:Store} {az aT:Shared},Step C (Own env) (aa.upd e (.exc c)) ai aq az->Step C (Own env) aq az aq aT->Step C (Own env) aQ aG aq aT:=fun aC aZ=>
    (((tot1'.trans (av.mono fun a ha=>.inl ha.own)).trans (aC.mono fun a ha=>.inl ha)).trans (aZ.mono fun a ha=>.inl ha)).old
   cases f with
   |next=>
    refine ob17 aA ?_;clear aA;intro a8 aq q aC bc aU;have d3:Dyn C k false S (A.mark (some (.ref e))) env a8 aq az:=aR.next aC bc aU;refine zfK U d3 hown hloc fun aT aZ bC=>?_;exact ⟨_,aq,q,fin aC aZ,bC,by rw [List.length_set];exact aU⟩
   |ret v=>
    refine ob53 aA ?_;clear aA;intro V aq q hv aC a8 bc aU;have d3:Dyn C k false S (A.mark (some (.ref e))) env a8 aq az:=aR.next aC bc aU;refine zfK U d3 hown hloc fun aT aZ bC=>?_;exact ⟨V,aq,q,aZ.vr hv,fin aC aZ,_,bC,by rw [List.length_set];exact aU⟩
   |_=>exact aA.elim
  ·rw [if_neg hcd] at h;rw [qai hcd];exact hr U tf aO d tot ft hc hn hrest h
theorem zoG {hs:Hs} (hb:SsP C body) (hh:HsP C hs):StP C (.tryx body hs):=by
 intro k md af S x env A ad aa s N R X U tf d hm h;dsimp only [zio] at h;refine zpG hm ?_;intro b hs' o f pos hm;refine l0E hm ?_;intro hm;refine l0E hm ?_;intro hm
 ·simp only [qae,Bool.not_eq_true'] at hm;refine ob18 hm ?_;clear hm;intro h1 h2 h3;refine ob16 (zbG h) ?_;intro hmd h;subst hmd;cases hs' with
  |nil=>cases h3
  |cons aw hs'=>
   refine wpAny_Try_except (wpAny_mono (hb U tf d h1 h) (fun f ag ao=>?_) fun x ag ao=>?_)
   ·cases f with
    |next=>exact wpAny_execs_nil ao
    |ret v=>exact ao
    |_=>exact ao.elim
   ·refine ob48 ao ?_;clear ao;intro e c ak ac ee156;subst ee156;intro q st l hl fl n;have d':=d.next st l hl;refine ob14 (id tf) ?_;intro outer hA;have hlow:∀a,Own env a->¬(s.heap.objs.size<=a):=fun a ha=>Nat.not_le.mpr (d.below a ha);refine zg5 (aw:=s.heap) hA U.fr d'.a.frames st.rel d.r.size st.h.size fl n fun ai av ft=>zbm (aw:=s.heap) av.rel d.r.size ft fun az aC bt=>?_;have st23:=av.trans aC;have d3:Dyn C k true S A env ak ac az:=d'.apart (n:=s.heap.objs.size) st23 d.a.low (fun a ha=>ha) hlow;have hce:c∈excNames:=by obtain ⟨_,_,_,hx,_⟩:=fl;exact hx.2
    exact hh U tf d d3 ((st.mono fun a ha=>.inl ha).trans (st23.mono fun a ha=>.inr ha)) bt hce n h2 q
mutual
theorem zpx:∀st:St,StP C st
 |.expr e=>znd
 |.assign t e=>zjK
 |.setattr o n e=>ziI
 |.setitem o i e=>ziH
 |.ret e=>zoH
 |.raise c m=>zls
 |.iff c th el=>zoI (zdC th) (zdC el)
 |.whil c b=>zlr (zdC b)
 |.for t it b=>zoJ (zdC b)
 |.tryx b hs=>zoG (zdC b) (zmX hs)
theorem zdC:∀ss:Sts,SsP C ss
 |.nil=>zoK
 |.cons s r=>zng (zpx s) (zdC r)
theorem zmX:∀hs:Hs,HsP C hs
 |.nil=>zpb
 |.cons D x b r=>znN (zdC b) (zmX r)
end
end
structure FnOk (C:Cx) (fa:Addr) (F:Fn):Prop where
 obj:∃o fd body,C.base.get? fa=some o/\o.data=.func fd/\fd.body=.stmts body/\fd.globals=mainGlobals/\fd.builtins=builtinsNs/\fd.closure=[]/\fd.scope.kind=.function/\fd.scope.isCoroutine=false/\fd.scope.isGenerator=false /\
  C.base.CodeRec fd.code fd.qualname/\(∀xs:List Value,xs.length=F.params.length->bindArgs fd ⟨xs,[]⟩=pure ((F.params.map Str.ofString).zip xs))/\zbL (scOf F fd.scope.names) F.body body=true /\
  (∀x∈F.params,fd.scope.names.lookup (Str.ofString x)=some .local\/fd.scope.names.lookup (Str.ofString x)=some .cell)/\∀x,fd.scope.names.lookup x≠some .free
 nodup:F.names.Nodup
 size:F.names.length<=F.size
 params:F.params <+: F.names
section
variable {C:Cx} {k:Nat} {md:Bool} {A:Around} {aa:Store} {s:Shared}
theorem zem {kd:Str->Option NameKind} {y:Str}:∀{bs:List (Str×Value)} {m:Str->Option Value},y∉bs.map (·.1)->bindL kd bs m y=m y
 | [],_,_=>rfl
 |(n,v)::r,m,h=>by
  simp only [List.map_cons,qad,not_or] at h;rw [bindL,zem h.2]
  split
  ·exact if_neg h.1
  ·rfl
theorem zgw {kd:Str->Option NameKind} {y:Str} {v:Value} (hk:kd y=some .local):∀{bs:List (Str×Value)} {m:Str->Option Value},(bs.map (·.1)).Nodup->(y,v)∈bs->bindL kd bs m y=some v
 |(n,u)::r,m,hn,h=>by
  simp only [List.map_cons,qar] at hn;rw [bindL]
  rcases qad.mp h with e |h
  ·cases e;rw [zem hn.1,if_pos hk,if_pos rfl]
  ·exact zgw hk hn.2 h
theorem zen {kd:Str->Option NameKind} {y:Str}:∀{bs:List (Str×Value)} {m:Str->Option Value},y∉bs.map (·.1)->bindC kd bs m y=m y
 | [],_,_=>rfl
 |(n,v)::r,m,h=>by
  simp only [List.map_cons,qad,not_or] at h;rw [bindC,zen h.2]
  split
  ·rfl
  ·exact if_neg h.1
theorem zgx {kd:Str->Option NameKind} {y:Str} {v:Value} (hk:kd y=some .cell):∀{bs:List (Str×Value)} {m:Str->Option Value},(bs.map (·.1)).Nodup->(y,v)∈bs->bindC kd bs m y=some v
 |(n,u)::r,m,hn,h=>by
  simp only [List.map_cons,qar] at hn;rw [bindC]
  rcases qad.mp h with e |h
  ·cases e;rw [zen hn.1,if_neg (by rw [hk];intro q;cases q),if_pos rfl]
  ·exact zgx hk hn.2 h
theorem za1:∀{l:List String} {x:String} {i n:Nat},(l.zipIdx n).lookup x=some i->n<=i/\l[i-n]?=some x
 | [],_,_,_,h=>by simp at h
 |y::l,x,i,n,h=>by
  rw [List.zipIdx_cons,List.lookup_cons] at h;cases hb:x==y with
  |true=>rw [hb] at h;cases h;simp [beq_iff_eq.mp hb]
  |false=>
   rw [hb] at h;refine ob16 (za1 h) ?_;intro h1 h2;refine ⟨by lia,?_⟩
   rw [show i-n=(i-(n+1))+1 by lia,List.getElem?_cons_succ];exact h2
theorem zjv {l:List String} {n:Nat} (hn:l.length<=n):NmOk l.zipIdx n:=by
 refine ⟨fun x y i hx hy=>?_,fun x i hx=>?_⟩
 ·have h1:=(za1 hx).2;have h2:=(za1 hy).2;rw [h1] at h2;cases h2;rfl
 ·have h1:=(za1 hx).2;have:=(List.getElem?_eq_some_iff.mp h1).1
  lia
theorem zcI:∀{l:List String},l.Nodup->(l.map Str.ofString).Nodup
 | [],_=>by simp
 |x::l,h=>by
  simp only [qar,List.map_cons] at h ⊢;refine ⟨fun hm=>?_,zcI h.2⟩;refine ob1 (List.mem_map.mp hm) ?_;intro y hy e;exact h.1 (ofString_inj e▸hy)
theorem zoN {tab:String->String->Option Fn} {fld:String->String->Bool} {F:Fn} {fa:Addr} {vs:List V} {xs:List Value} {Q:V->Store->Prop} {X:XP} (XC:CxOk C) (XI:CxIs C) (ca:∀md,CallsOk C k md (sem tab fld k md)) (FO:FnOk C fa F)
  (a:ARun C (k+1) md A aa s.heap) (r:Rel C aa s.heap) (hv:VRs s.heap vs xs) (h:wpFn (sem tab fld k) md F vs aa Q X) :
  codeAny C.M A (.call (.ref fa) ⟨xs,[]⟩) (fun r s'=>match r with |.ok (.ret v)=>PostV C aa s Q v s' |.ok _=>False |.error e=>PostX C aa s X e s') s:=by
 refine lift fun g9 k9=>?_;obtain ⟨o,fd,body,ho,hd,hbody,hgl,hbu,hcl,hkind,hco,hgen,hcd,hbind,hmatch,hpar,hfree⟩:=FO.obj;refine ob16 h ?_;clear h;intro hlen h
 apply k9
 clear k9 g9;have hxl:xs.length=F.params.length:=hv.length.symm.trans hlen;have hK:=r.stays;have hroom:A.depth<recursionLimit:=Nat.lt_of_lt_of_le (by have:=a.depth;lia:A.depth<990) (by decide)
 refine codeAny_call_function hroom (hK _ _ ho) hd hco hgen hbody (hcd.keeps hK) ?_;rw [hbind xs hxl];refine qab ?_;rw [hgl,hbu,hcl];have hbk:((F.params.map Str.ofString).zip xs).map (·.1)=F.params.map Str.ofString:=by
  rw [List.map_fst_zip];simp;lia
 have hpn:F.params.Nodup:=FO.nodup.sublist FO.params.sublist;refine wpAny_newFunctionEnv_cells hkind (fun x hx=>?_) fun env he s' y=>?_
 ·have hx1:x.1∈F.params.map Str.ofString:=hbk▸List.mem_map_of_mem (f:=(·.1)) hx;refine ob1 (List.mem_map.mp hx1) ?_;intro p hp hpe
  rcases hpar p hp with q |q
  ·exact .inl (hpe▸q)
  ·exact .inr ⟨hpe▸q,cellsFrom_some _ _ _ (.inl (hpe▸q))⟩
 refine ⟨(XC.nolimit.keeps hK).keeps y.toInCall.keep,codeAny_func ?_⟩;have eloc:env.locals=s.heap.objs.size:=by rw [he];rfl
 have efr:env.frame=some env.locals:=by rw [he];rfl
 have esc:env.scope=fd.scope:=by rw [he];rfl
 have ecl:env.cells=cellsFrom (s.heap.objs.size+1) fd.scope.names []:=by rw [he];rfl
 have ES:EnvS (scOf F fd.scope.names) env:=by
  refine ⟨⟨by rw [esc];exact hkind,by rw [he];rfl,by rw [he];rfl⟩,by rw [esc];rfl,zjv FO.size,fun x hx=>?_⟩
  rcases hx with hx |hx
  ·rw [ecl];exact cellsFrom_some _ _ _ (.inl hx)
  ·exact absurd hx (hfree x)
 refine ob20 y.toInCall.same ?_;intro ao tk ee157;subst ee157;have keep:=y.toInCall.keep;have hLlt:env.locals<ao.objs.size:=by
  refine ob27 y.toInCall.ns ?_;intro oL J J hL J;exact Heap.lt_size hL
 have st0:Step C No aa s aa { s with heap:=ao,toks:=tk }:=.grow r keep (by rw [eloc] at hLlt;exact Nat.le_of_lt hLlt)
 have bg:∀a,s.heap.objs.size<=a->aa a=none/\C.base.get? a=none:=fun a ha=>⟨r.none_of_ge ha,za6 r ha⟩;have cellAb:∀n c,env.cells.lookup n=some c->s.heap.objs.size<=c:=fun n c hc=>by
  have:=y.above n c (PySem.mem_of_lookup hc);rw [eloc] at this;exact Nat.le_of_lt this
 have hown:∀a,Own env a->s.heap.objs.size<=a:=fun a ha=>by
  rcases ha with rfl |⟨n,hc⟩
  ·exact Nat.le_of_eq eloc.symm
  ·exact cellAb n a hc
 have hnm:((F.params.map Str.ofString).zip xs).map (·.1) |>.Nodup:=by rw [hbk];exact zcI hpn
 have l:LR C aa ao env (scOf F fd.scope.names).nm (vs.map some++List.replicate (F.size-vs.length) none):=by
  refine ⟨fun x i v hx hv'=>?_,⟨_,y.toInCall.ns⟩,bg _ (Nat.le_of_eq eloc.symm),fun n c hc=>⟨⟨_,y.cell n c hc⟩,bg _ (cellAb n c hc)⟩,fun x z c hx hz=>PySem.name_of_addr y.apart (PySem.mem_of_lookup hx) (PySem.mem_of_lookup hz)⟩;have hxi:F.names[i]?=some x:=(za1 hx).2;have hi:i<vs.length:=by
   by_cases hlt:i<vs.length
   ·exact hlt
   ·exfalso
    simp only [Loc.get] at hv';rw [List.getElem?_append_right (by simpa using Nat.not_lt.mp hlt),List.getElem?_replicate] at hv'
    split at hv'<;>simp at hv'
  have hvi:vs[i]?=some v:=by
   simp only [Loc.get] at hv';rw [List.getElem?_append_left (by simpa using hi),qau] at hv'
   cases q:vs[i]? with
   |none=>rw [q] at hv';simp at hv'
   |some w=>rw [q] at hv';simp at hv';rw [hv']
  refine ob1 (hv.get hvi) ?_;intro u hu hvu;have hpi:F.params[i]?=some x:=by
   refine ob14 FO.params ?_;intro t ht;rw [←ht,List.getElem?_append_left (by lia)] at hxi
   exact hxi
  have hmem:(Str.ofString x,u)∈(F.params.map Str.ofString).zip xs:=by
   refine List.mem_iff_getElem?.mpr ⟨i,?_⟩;rw [List.getElem?_zip_eq_some];exact ⟨by rw [qau,hpi];rfl,hu⟩
  have hpx:x∈F.params:=qav hpi;unfold Holds;rw [ES.kindOf]
  rcases hpar x hpx with q |q
  ·rw [show (scOf F fd.scope.names).names.lookup (Str.ofString x)=some .local from q];exact ⟨_,u,y.toInCall.ns,zgw (by rw [ES.kindOf];exact q) hnm hmem,hvu.keep fun b ob e J=>keep b ob e⟩
  ·rw [show (scOf F fd.scope.names).names.lookup (Str.ofString x)=some .cell from q];refine ob14 (Option.isSome_iff_exists.mp (ES.cells (Str.ofString x) (.inl q))) ?_;intro c hc;have hcell:=y.cell _ c hc;rw [zgx (by rw [ES.kindOf];exact q) hnm hmem] at hcell
   exact ⟨c,u,hc,hcell,hvu.keep fun b ob e J=>keep b ob e⟩
 have hvl:vs.length<=F.size:=by
  have:=FO.params.length_le;have:=FO.size
  lia
 refine ob6 a.frames ?_;intro fl hfl hff hfn;have d:Dyn C k md (scOf F fd.scope.names) (A.deeper env) env (vs.map some++List.replicate (F.size-vs.length) none) aa { s with heap:=ao,toks:=tk }:=by
  refine ⟨⟨⟨env::fl,by show A.frames.map _=_;rw [hfl];rfl,?_,fun L hL=>?_⟩,a.handled,?_,?_⟩,st0.rel,l,by simp [scOf];lia⟩
  ·refine ⟨by rw [esc,hkind];decide,?_,hff.of_keeps fun b ob hb J=>⟨ob,keep b ob hb,rfl⟩⟩
   refine ob10 y.toInCall.ns ?_;intro oL es ep hL hLd J;exact ⟨env.locals,oL,efr,(bg _ (Nat.le_of_eq eloc.symm)).2,hL,fun vs q=>by rw [hLd] at q;cases q⟩
  ·rw [List.filterMap_cons,efr] at hL
   rcases qad.mp hL with rfl |hL
   ·refine ob10 y.toInCall.ns ?_;intro oL es ep hL hLd J;exact ⟨(bg _ (Nat.le_of_eq eloc.symm)).1,oL,es,ep,hL,hLd⟩
   ·refine ob7 (hfn L hL) ?_;intro z1 o' es n' z2 z3;exact ⟨z1,o',es,n',keep _ _ z2,z3⟩
  ·show A.depth+1+3*(k+1)<990;have:=a.depth;lia
  ·show A.units+3+40*(k+1)<9000;have:=a.units;lia
 have U:SurS C k (sem tab fld k) (scOf F fd.scope.names) env:=⟨XC,XI,ca,ES,efr⟩;have tf:zkZ (A.deeper env) env:=⟨fl,by show A.frames.map _=_;rw [hfl];rfl⟩
 refine wpAny_mono (zdC F.body U tf d hmatch h) (fun f s' hf=>?_) fun x s' hx=>?_
 ·cases f with
  |next=>
   refine ob2 hf ?_;clear hf;intro ak ac q st J;exact ⟨.none,ac,q,.none,(st0.no.trans st).drop hown⟩
  |ret v=>
   refine ob17 hf ?_;clear hf;intro V ac q hv' st J;exact ⟨V,ac,q,hv',(st0.no.trans st).drop hown⟩
  |_=>exact hf.elim
 ·refine ob48 hx ?_;clear hx;intro e c ak ac ee158;subst ee158;intro q st l' hl' fl' n;have d':=d.next st l' hl';have tot:Step C (fun a=>s.heap.objs.size<=a) aa s ac s':=st0.no.trans (st.mono hown);refine ob14 tf ?_;clear tf;intro outer hA;unfold leaving;refine qaa (zg5 (aw:=s.heap) hA efr d'.a.frames st.rel r.size tot.h.size (fl'.older st0.h.size) n fun ai av ft=>zbm (aw:=s.heap) av.rel r.size ft fun az aC bt=>?_);exact ⟨e,c,ac,rfl,q,((tot.trans av).trans aC).drop fun J ha=>ha,bt.fly,n⟩
structure TabOk (C:Cx) (tab:String->String->Option Fn) (fld:String->String->Bool):Prop where
 fn:∀c f F,tab c f=some F->∃a,C.fn c f=some a/\FnOk C a F
 fld:∀c f,fld c f=true->C.fld c f=true
theorem zgu {tab:String->String->Option Fn} {fld:String->String->Bool} (T:TabOk C tab fld) {c f:String} (h:(tab c f).isSome=true):∃a,C.fn c f=some a:=by
 refine ob14 (Option.isSome_iff_exists.mp h) ?_;intro F hF;refine ob1 (T.fn c f F hF) ?_;intro a ha J;exact ⟨a,ha⟩
theorem zil {tab:String->String->Option Fn} {fld:String->String->Bool} (XC:CxOk C) (XI:CxIs C) (T:TabOk C tab fld):∀(k:Nat) (md:Bool),CallsOk C k md (sem tab fld k md)
 | 0,md=>⟨fun J J=>zgu T,fun c f h=>T.fld c f h,fun J J J J h=>by rw [zgY] at h;exact h.elim⟩
 |k+1,md=>⟨fun J J=>zgu T,fun c f h=>T.fld c f h,fun {c f a vs xs aa s A Q X} hfa ar r hv h=>by
   rw [zgY] at h;refine ob1 (zai h) ?_;intro F hF h;refine ob1 (T.fn c f F hF) ?_;intro a' ha' FO;rw [hfa] at ha';cases ha';exact zoN XC XI (zil XC XI T k) FO ar r hv h⟩
end
section
variable {prog:Program} {w:World} {A:Around} {E:Value->Shared->Prop} {s:Shared} {K:Frag} {x Cl:Addr} {ox:Obj}
theorem znO (self:Value):bindSpecial (.builtin "BaseException.__getattribute__") self=pure (.builtin "BaseException.__getattribute__",[self]):=F.excAttr_ValueError.ga.bind self
theorem zma:plainId "BaseException.__getattribute__" = true:=by decide +kernel
structure ExcCls (K:Frag) (Cl:Addr):Prop where
 ga:findIn K (.ref Cl) "__getattribute__" = some (some (.builtin "BaseException.__getattribute__"))
 hk:findIn K (.ref Cl) "__getattr__" = some none
 fd:findObj K Cl none "__class__" = some (.bind (.builtin "getset_descriptor.__get__") (.builtin "object.__class__"))
 base:mroIn K Cl (.type "BaseException")=some true
 obj:mroIn K Cl (.type "object")=some true
 cls:(clsIn K Cl).isSome=true
theorem zkA {Q:Option Value->Shared->Prop} (Z:ExcCls K Cl) (X:K.In s.heap) (I:InstAt s.heap x ox Cl none) (h:Q (some (.ref Cl)) { s with toks:=s.toks+1 }):wpAny (model prog w) A (getAttr? (.ref x) "__class__") Q E s:=by
 refine lift fun g9 k9=>?_;obtain ⟨hh,g,d,t,os⟩:=s
 apply k9
 clear k9 g9;have L0:=I.type (M:=model prog w);have L1:=looks_findIn (M:=model prog w) X Z.ga;have L2:=looks_findIn (M:=model prog w) X Z.hk;have L3:=looks_find (M:=model prog w) X I Z.fd;have L4:Looks (model prog w) hh (isInstance (.ref x) (.type "BaseException")) true:=I.type.andThen (looks_mroIn X Z.base);have f3:=znO (.ref x);unfold getAttr? getAttrBy? getAttrBy;refine qaa (wpAny_mkText (qaa (wpAny_attempt (wpAny_holding (qaa (L0.at (qaa (L1.at ?_))))))));show wpAny _ _ (getAttrByItsOwn _ _ _ _ _ _) _ _ _;unfold getAttrByItsOwn hookBefore callGetattribute boundAndCalled;refine qaa (L2.at ?_);refine qaa (wpAny_attempt (wpAny_holding ?_));show wpAny _ _ (bindSpecial _ _ >>= fun r=>call r.1 (r.2++[_])) _ _ _;rw [f3];refine qaa (qab (wpAny_call ?_));refine codeAny_call_builtin zma F.entry_bexc_ga (@check_slot (model prog w) _ _ _ "BaseException.__getattribute__" "BaseException" "__getattribute__" (.ref x) [.str "__class__" t] [] _ (by decide +kernel) (by decide +kernel) L4 (F.args_bexc_ga _ _) ?_)
 unfold Builtin.«object.__getattribute__»;refine qaa (qab (qaa (qab (qaa (L0.at (qaa (L3.at ?_)))))));show wpAny _ _ (Builtin.ObjectAttr.bindTo _ _ _ _) _ _ _;unfold Builtin.ObjectAttr.bindTo;refine qaa (wpAny_holding (wpAny_call (class_get (s:=⟨hh,g,d,t+1,os⟩) X I Z.obj ?_)));refine qab ?_;show wpAny _ _ (handedOut _) _ _ _;rw [handedOut_of rfl];exact qab (qab h)
set_option tactic.hygienic true in
theorem zlY (Z:ExcCls K Cl):KitX K (.ref x) (.ref Cl) (fun h=>InstAt h x ox Cl none) where
 ty:=fun J J J I=>I.type
 it:=fun J J X J=>by
  refine ob14 (Option.isSome_iff_exists.mp Z.cls) ?_;intro cdD hcD;unfold clsIn at hcD
  split at hcD
  ·rename_i c' d' cd' sl' ho;intro A' Q' E' s' k q;unfold isType loadHead;exact qaa (wpAny_loadPart (k _ _ (X _ _ ho)) (qab q))
  ·cases hcD
 ne:=fun h tp dd its n sl X htp=>by
  refine ob14 (Option.isSome_iff_exists.mp Z.cls) ?_;intro cdD hcD;refine Bool.eq_false_iff.mpr fun q=>?_;have e:Cl=tp:=Value.ref.inj (beq_iff_eq.mp q);subst e;unfold clsIn at hcD
  split at hcD
  ·rename_i c' d' cd' sl' ho;have z:=(X _ _ ho).symm.trans htp;cases z
  ·cases hcD
 ca:=fun X I k=>zkA Z X I k
theorem znT {c:Value} {b:Bool} {Q:Value->Shared->Prop} {o:Obj} {vs:Array Value} (Z:ExcCls K Cl) (X:K.In s.heap) (ho:s.heap.get? x=some o) (hc:o.cls=.ref Cl) (hd:o.data=.fields vs) (hdd:o.dict=none) (e:kitOne K (.ref Cl) c=some b) (h:∀tk,Q (.bool b) { s with toks:=tk }) :
  wpAny (model prog w) A (call (.builtin "isinstance") [.ref x,c]) Q E s:=
 kia_one (zlY (ox:=o) Z) X ⟨ho,hc,by unfold notCls;rw [hd],by rw [hdd];trivial⟩ e (by intro q;cases q) h
end
theorem zon:(bNames.all fun p=>bootBuiltins (Str.ofString p.1)==some p.2)=true:=by kernel_rfl
theorem zj2:(bNames.all fun p=>decide (Str.ofString p.1≠("__name__" : Str)))=true:=by kernel_rfl
noncomputable def cxOf (prog:Program) (w:World) (base:Heap) (K:Frag) (T:Tabs) (mg mb:Str->Option Value):Cx:=
 ⟨prog,w,base,fun c=>T.cls.lookup c,fun c f=>T.fn.lookup (c,f),fun c f=>T.fld.contains (c,f),K,mg,mb⟩
section
variable {prog:Program} {w:World} {base:Heap} {K:Frag} {T:Tabs} {mg mb:Str->Option Value}
theorem zaO {α β:Type} [BEq α] [LawfulBEq α]:∀{l:List (α×β)} {x:α} {y:β},l.lookup x=some y->(x,y)∈l
 |(a,b)::r,x,y,h=>by
  rw [List.lookup_cons] at h;cases hb:x==a with
  |true=>rw [hb] at h;cases h;rw [beq_iff_eq.mp hb];exact qaj
  |false=>rw [hb] at h;exact qag _ (zaO h)
structure TopOk (K:Frag) (T:Tabs):Prop where
 bn:∀x v,(x,v)∈bNames->nsIn K mainGlobals (Str.ofString x)=some none
 most:∃t,nsIn K mainGlobals "MOST_PLACES" = some (some (.int 40 t))
 cls:∀c a,(c,a)∈T.cls->c ≠ "" /\ nsIn K mainGlobals (Str.ofString c)=some (some (.ref a))
 fn:∀c f a,((c,f),a)∈T.fn->isFd K a=true/\(c = "" -> nsIn K mainGlobals (Str.ofString f)=some (some (.ref a)))/\(c ≠ "" -> ∃Cl,T.cls.lookup c=some Cl/\zeY K Cl=true/\findIn K (.ref Cl) (Str.ofString f)=some (some (.ref a)) /\
  isFn K (.ref a)=true/\typeIn K (.ref a)=some (.type "function")/\(f = "__init__" -> keepIn K (.ref Cl)=true/\makesIn K Cl=true))
 fld:∀c f,(c,f)∈T.fld->∃Cl,T.cls.lookup c=some Cl/\zeY K Cl=true/\findIn K (.ref Cl) (Str.ofString f)=some none
 exc:∀c∈excNames,∃Cl,T.cls.lookup c=some Cl/\excB K Cl=true/\(∀D∈excNames,∃Dl,T.cls.lookup D=some Dl/\subIn K (.ref Cl) (.ref Dl)=some (decide (c=D))) /\
  ∀D ∈ "ValueError" :: "NetError" :: excNames,∃v,zok T D=some v/\kitOne K (.ref Cl) v=some (zdc c D)
set_option tactic.hygienic true in
theorem zhK (h:zc2 K T=true):TopOk K T:=by
 unfold zc2 at h;simp only [qae] at h;refine ob38 h ?_;clear h;intro h1 h2 h3 h4 h5 h6;refine ⟨fun x v hx=>?_,?_,fun c a hc=>?_,fun c f a hf=>?_,fun c f hf=>?_,fun c hc=>?_⟩
 ·exact beq_iff_eq.mp (List.all_eq_true.mp h1 _ hx)
 ·refine lift fun g9 k9=>?_;refine ob1 ((Option.any_eq_true ..).mp h2) ?_;intro o e h2;refine ob1 ((Option.any_eq_true ..).mp h2) ?_;intro v e2 h2;refine ob14 (Value.isInt_shape h2) ?_;intro t ee159;subst ee159
  apply k9
  clear k9 g9;exact ⟨t,e2▸e⟩
 ·have:=List.all_eq_true.mp h3 _ hc;simp only [qae,bne_iff_ne,beq_iff_eq] at this;exact this
 ·have:=List.all_eq_true.mp h4 _ hf;simp only [qae] at this;refine ob16 this ?_;clear this;intro z1 z2;refine ⟨z1,fun hc=>?_,fun hc=>?_⟩
  ·rw [if_pos (by simpa using hc)] at z2;exact beq_iff_eq.mp z2
  ·rw [if_neg (by simpa using hc)] at z2
   split at z2
   ·rename_i Cl hCl;simp only [qae,Bool.or_eq_true,bne_iff_ne,beq_iff_eq] at z2;refine ob36 z2 ?_;clear z2;intro y1 y2 y3 y4 y5;exact ⟨Cl,hCl,y1,y2,y3,y4,fun e=>y5.elim (fun n=>absurd e n) id⟩
   ·cases z2
 ·have:=List.all_eq_true.mp h5 _ hf;dsimp only at this
  split at this
  ·rename_i Cl hCl;simp only [qae,beq_iff_eq] at this;exact ⟨Cl,hCl,this.1,this.2⟩
  ·cases this
 ·have:=List.all_eq_true.mp h6 _ hc
  split at this
  ·rename_i Cl hCl;simp only [qae] at this;refine ob18 this ?_;clear this;intro y1 y2 y3;refine ⟨Cl,hCl,y1,fun D hD=>?_,fun D hD=>?_⟩
   ·have:=List.all_eq_true.mp y2 _ hD
    split at this
    ·rename_i Dl hDl;exact ⟨Dl,hDl,beq_iff_eq.mp this⟩
    ·cases this
   ·have:=List.all_eq_true.mp y3 _ hD
    split at this
    ·rename_i v hv;exact ⟨v,hv,beq_iff_eq.mp this⟩
    ·cases this
  ·cases this
set_option tactic.hygienic true in
theorem zhg (X:K.In base) {a:Addr} (h:isFd K a=true):∃o,base.get? a=some o/\o.data=.func (fdOf K a):=by
 unfold isFd at h
 split at h
 ·rename_i e;refine ⟨_,X _ _ e,?_⟩;unfold fdOf;rw [e]
 ·cases h
variable {Cl:Addr}
theorem zik (h:zeY K Cl=true):zov K Cl:=by
 unfold zeY at h;simp only [qae,beq_iff_eq] at h;exact ⟨h.1.1.1,h.1.1.2,h.1.2,h.2⟩
set_option tactic.hygienic true in
theorem zdd (h:excB K Cl=true):ExcCls K Cl/\instIn K (.ref Cl) (.type "tuple")=some false/\excIn K Cl [.type "ValueError",.type "Exception",.type "BaseException",.type "object"] "ValueError.__new__" = true:=by
 unfold excB at h;simp only [qae,beq_iff_eq] at h;refine ob54 h ?_;clear h;intro h1 h2 h3 h4 h5 h6 h7 h8;refine ⟨⟨h1,h2,?_,h4,h5,h6⟩,h7,h8⟩
 split at h3
 ·rename_i g a e;simp only [qae,beq_iff_eq] at h3;rw [e,h3.1,h3.2]
 ·cases h3
theorem zob {p:Program} {loose:List Str} (X:K.In base) (R:TopRead p loose mg mb base) (h:zc2 K T=true):CxOk (cxOf prog w base K T mg mb):=by
 have O:=zhK h;refine ⟨X,R.g,R.b,R.nolimit,fun x v hx=>⟨mg_none_of X R.g (O.bn x v hx),?_⟩,fun x i hx=>?_,?_,fun c Cl hc=>?_,fun f a hf=>?_,fun c fa hf hc=>?_,fun c name fa Cl hf hc hcl=>?_,fun c name Cl hf hcl=>?_⟩
 ·have h1:=List.all_eq_true.mp zon _ hx;have h2:=List.all_eq_true.mp zj2 _ hx;show mb _=_;rw [R.builtins _ (of_decide_eq_true h2)];exact beq_iff_eq.mp h1
 ·unfold zkx at hx
  split at hx
  ·cases hx;refine ob14 O.most ?_;intro t ht;exact ⟨t,mg_of X R.g ht⟩
  ·cases hx
 ·show T.cls.lookup "" = none;cases q:T.cls.lookup "" with
  |none=>rfl
  |some a=>exact absurd rfl (O.cls _ _ (zaO q)).1
 ·exact mg_of X R.g (O.cls _ _ (zaO hc)).2
 ·refine ob19 (O.fn _ _ _ (zaO hf)) ?_;intro h1 h2 J;refine ob1 (zhg X h1) ?_;intro o ho hd;exact ⟨mg_of X R.g (h2 rfl),o,_,ho,hd⟩
 ·refine lift fun g9 k9=>?_;refine ob19 (O.fn _ _ _ (zaO hf)) ?_;intro h1 J h3;refine ob55 (h3 hc) ?_;intro Cl y1 y2 y3 y4 y5 y6;refine ob16 (y6 rfl) ?_;intro z1 z2
  apply k9
  clear k9 g9;exact ⟨Cl,y1,z1,z2,y3,y5⟩
 ·refine ob19 (O.fn _ _ _ (zaO hf)) ?_;intro h1 J h3;refine ob55 (h3 hc) ?_;intro Cl' y1 y2 y3 y4 y5 y6;have:Cl'=Cl:=Option.some.inj (y1.symm.trans hcl);subst this;refine ob1 (zhg X h1) ?_;intro o ho hd;exact ⟨zik y2,y3,y4,o,_,ho,hd⟩
 ·have hm:(c,name)∈T.fld:=by simpa [cxOf] using hf
  refine ob6 (O.fld _ _ hm) ?_;intro Cl' y1 y2 y3;have:Cl'=Cl:=Option.some.inj (y1.symm.trans hcl);subst this;exact ⟨zik y2,y3⟩
set_option tactic.hygienic true in
theorem znS {A:Around} {s:Shared} {a Dl:Addr} {o:Obj} {b:Bool} {Q:Bool->Shared->Prop} {E:Value->Shared->Prop} (X:K.In s.heap) (ZD:ExcCls K Dl) (ht:instIn K (.ref Dl) (.type "tuple")=some false)
  (ho:s.heap.get? a=some o) (hc:o.cls=.ref Cl) (hs:subIn K (.ref Cl) (.ref Dl)=some b) (q:Q b s):wpAny (model prog w) A (excMatches (.ref a) (.ref Dl)) Q E s:=by
 refine lift fun g9 k9=>?_;obtain ⟨hh,g,d,t,os⟩:=s
 apply k9
 clear k9 g9;have L1:=looks_instIn (M:=model prog w) X ht;have L2:Looks (model prog w) hh (isType (.ref Dl)) true:=by
  refine ob14 (Option.isSome_iff_exists.mp ZD.cls) ?_;intro cdD hcD;unfold clsIn at hcD
  split at hcD
  ·rename_i c' d' cd' sl' ho;intro A' Q' E' s' k q;unfold isType loadHead;exact qaa (wpAny_loadPart (k _ _ (X _ _ ho)) (qab q))
  ·cases hcD
 have L3:=looks_mroIn (M:=model prog w) X ZD.base;have L4:Looks (model prog w) hh (typeOf (.ref a)) (.ref Cl):=hc▸(Looks.ld ho).andThen .now;have L5:=looks_subIn (M:=model prog w) X hs;unfold excMatches isExcClass;refine qaa (L1.at ?_);simp only [Bool.false_eq_true,if_false];refine qaa (qab ?_);simp only [List.forIn_cons,List.forIn_nil];refine qaa (qaa (qaa (qaa (L2.at ?_))));simp only [if_true];refine L3.at ?_;simp only [Bool.not_true,Bool.false_eq_true,if_false];refine qab (qab (qaa (L4.at (qaa (qaa (qaa (L5.at ?_)))))));cases b with
 |true=>exact qab (qab (qab q))
 |false=>exact qab (qab (qab q))
theorem zoc {p:Program} {loose:List Str} (X:K.In base) (R:TopRead p loose mg mb base) (h:zc2 K T=true):CxIs (cxOf prog w base K T mg mb):=by
 have O:=zhK h;refine ⟨fun {c D vD A s a Cl o vs Q E} hc hin hD hst hcl ho hoc hdd hod hq=>?_,fun D vD hD=>?_,fun c hc=>?_,fun {c D A s a Cl Dl o vs Q E} hc hD hst hcl hDl ho hoc hod hq=>?_,fun D hD=>?_⟩
 ·refine ob8 (O.exc c hc) ?_;intro Cl' y1 y2 J y4;have:Cl'=Cl:=Option.some.inj (y1.symm.trans hcl);subst this;have hv:zok T D=some vD:=hD;refine ob1 (y4 D hin) ?_;intro v hv' hk;rw [hv] at hv';cases hv';exact znT (zdd y2).1 (X.keeps hst) ho hoc hod hdd hk hq
 ·by_cases hv:D = "ValueError"
  ·subst hv;have:some (Value.type "ValueError")=some vD:=hD;cases this;exact .inr ⟨rfl,rfl⟩
  ·have hD':(T.cls.lookup D).map Value.ref=some vD:=by
    have:clsV (cxOf prog w base K T mg mb) D=some vD:=hD;unfold clsV at this;rw [if_neg hv] at this;exact this
   refine ob1 (Option.map_eq_some_iff.mp hD') ?_;intro a ha ee160;subst ee160;exact .inl (mg_of X R.g (O.cls _ _ (zaO ha)).2)
 ·refine ob6 (O.exc c hc) ?_;intro Cl y1 y2 J;exact ⟨Cl,_,_,_,_,y1,F.excBase_ValueError,own_of_in X R (O.cls _ _ (zaO y1)).2 (zdd y2).2.2⟩
 ·refine ob8 (O.exc c hc) ?_;intro Cl' y1 y2 y3 J;have:Cl'=Cl:=Option.some.inj (y1.symm.trans hcl);subst this;refine ob1 (y3 D hD) ?_;intro Dl' z1 z2;have:Dl'=Dl:=Option.some.inj (z1.symm.trans hDl);subst this;refine ob6 (O.exc D hD) ?_;intro Dl2 w1 w2 J;have:Dl2=Dl':=Option.some.inj (w1.symm.trans z1);subst this;exact znS (X.keeps hst) (zdd w2).1 (zdd w2).2.1 ho hoc z2 hq
 ·refine ob8 (O.exc "BadNet" (by decide)) ?_
  intro J J J J y4;refine ob1 (y4 D hD) ?_;intro v hv J;exact ⟨v,hv⟩
set_option tactic.hygienic true in
theorem znQ {C:Cx} {a:Addr} {F:Fn} (X:K.In C.base) (h:zhp K a F=true) (hb:∀xs:List Value,xs.length=F.params.length->bindArgs (fdOf K a) ⟨xs,[]⟩=pure ((F.params.map Str.ofString).zip xs)):FnOk C a F:=by
 unfold zhp at h;dsimp only at h
 split at h
 ·rename_i body hbody;simp only [qae,beq_iff_eq,Bool.not_eq_true',qaq,List.isEmpty_iff] at h;refine ob56 h ?_;clear h;intro h1 h2 h3 h4 h5 h6 h7 h8 h9 h10 h11 h12 h13 h14;refine ob1 (zhg X h1) ?_;intro o ho hd;refine ⟨⟨o,_,body,ho,hd,hbody,h2,h3,h4,h5,h6,h7,codeRec_of X h8,hb,h9,fun x hx=>?_,fun x hx=>?_⟩,h12,h13,h14⟩
  ·have:=List.all_eq_true.mp h10 x hx
   simpa using this
  ·have:=List.all_eq_true.mp h11 _ (PySem.mem_of_lookup hx);simp at this
 ·cases h
end
theorem zi5 {ns:List Str} {xs:List Value} (h:xs.length=ns.length) {n:Str} (hn:n∈ns):((ns.zip xs).lookup n).isSome=true:=by
 induction ns generalizing xs with
 |nil=>cases hn
 |cons m ns ih=>
  cases xs with
  |nil=>simp at h
  |cons x xs=>
   rw [List.zip_cons_cons,List.lookup_cons];cases e:n==m with
   |true=>rfl
   |false=>
    rcases qad.mp hn with rfl |hn
    ·rw [beq_self_eq_true] at e;cases e
    ·exact ih (by simpa using h) hn
theorem zib {α β:Type} {f g:α->Option β}:∀{l:List α},(∀a∈l,f a=g a)->l.filterMap f=l.filterMap g
 | [],_=>rfl
 |a::l,h=>by rw [List.filterMap_cons,List.filterMap_cons,h a qaj,zib fun b hb=>h b (qag _ hb)]
theorem zlb {ns:List Str} {xs:List Value} (hn:ns.Nodup) (h:xs.length=ns.length):ns.filterMap (fun n=>((ns.zip xs).lookup n).map (n,·))=ns.zip xs:=by
 induction ns generalizing xs with
 |nil=>rfl
 |cons m ns ih=>
  cases xs with
  |nil=>simp at h
  |cons x xs=>
   have hm:=(qar.mp hn).1;rw [List.zip_cons_cons,List.filterMap_cons];simp only [List.lookup_cons,beq_self_eq_true,Option.map_some]
   congr 1
   refine (zib ?_).trans (ih (qar.mp hn).2 (by simpa using h))
   intro n hnm;have:(n==m)=false:=by
    cases e:n==m with
    |false=>rfl
    |true=>rw [beq_iff_eq] at e;subst e;exact absurd hnm hm
   rw [this]
theorem zoq {fd:FuncData} {ps:List String} (hp:ze6 fd ps=true) (xs:List Value) (hx:xs.length=ps.length):bindArgs fd ⟨xs,[]⟩=pure ((ps.map Str.ofString).zip xs):=by
 refine lift fun g9 k9=>?_;obtain ⟨name,qn,⟨po,as,va,ko,kd,kw,df⟩,body,scope,gl,cl,defs,kwd,doc,pm,an,cd,ct,bl⟩:=fd
 apply k9
 clear k9 g9;simp only [ze6,qae,List.isEmpty_iff,beq_iff_eq,Option.isNone_iff_eq_none,qaq] at hp;refine ob44 hp ?_;clear hp;intro ee161;subst ee161;intro hn ee162;subst ee162;intro ee163;subst ee163;intro ee164;subst ee164;intro hd hnd;have hd:defs=.none:=by cases defs<;>first |rfl |cases hd
 subst hd;have hl:xs.length=(ps.map Str.ofString).length:=by rw [qac];exact hx
 have miss:((ps.map Str.ofString).filter fun n=>(((ps.map Str.ofString).zip xs).lookup n).isNone)=[]:=List.filter_eq_nil_iff.mpr fun n hm z=>by
  have:=zi5 hl hm;rw [Option.isNone_iff_eq_none] at z;rw [z] at this;cases this
 have hb:=zlb hnd hl;unfold bindArgs;refine (if_neg (fun z=>?_)).trans ?_
 ·have z:=of_decide_eq_true (Bool.and_eq_true_iff.mp z).1;change xs.length > (as.map (·.arg)).length at z;rw [hn,hl] at z;exact Nat.lt_irrefl _ z
 have e0:∀m,([]:List Value).drop m=[]:=fun m=>List.drop_nil;refine (if_neg (fun z=>?_)).trans ?_
 ·change (!(List.filter (fun n=>(((as.map (·.arg)).zip xs).lookup n).isNone) ((as.map (·.arg)).take ((as.map (·.arg)).length-(([]:List Value).drop (0-(as.map (·.arg)).length)).length))).isEmpty)=true at z;rw [e0,hn,List.length_nil,Nat.sub_zero,List.take_length,miss] at z;cases z
 change ((forIn (((as.map (·.arg)).drop ((as.map (·.arg)).length-(([]:List Value).drop (0-(as.map (·.arg)).length)).length)).zip (([]:List Value).drop (0-(as.map (·.arg)).length))) ((as.map (·.arg)).zip xs) _:Sem _) >>= _)=_;rw [e0,List.zip_nil_right];change (pure ((as.map Arg.arg++([]:List Str)).filterMap fun n=>(((as.map Arg.arg).zip xs).lookup n).map (n,·)):Sem _)=_;rw [List.append_nil,hn];exact congrArg pure hb
theorem zee {h:Heap} {k:Frag->Bool}:∀{as:List Addr} {acc:Frag},zdB h k as acc=true->acc.In h->∃K:Frag,K.In h/\k K=true
 | [],acc,e,i=>⟨acc,i,e⟩
 |a::as,acc,e,i=>by
  cases ho:h.get? a with
  |none=>
   replace e:(match h.get? a with |some o=>zdB h k as ((a,o)::acc) |none=>zdB h k as acc)=true:=e
   rw [ho] at e;exact zee e i
  |some o=>
   replace e:(match h.get? a with |some o=>zdB h k as ((a,o)::acc) |none=>zdB h k as acc)=true:=e
   rw [ho] at e;refine zee e ?_;intro b p hp;rw [List.lookup_cons] at hp;cases e':b==a with
   |true=>rw [e'] at hp;cases hp;rw [beq_iff_eq.mp e'];exact ho
   |false=>rw [e'] at hp;exact i b p hp
def zlE (T:Tabs) (fns:List ((String×String)×Fn)) (law:Addr) (h:Heap):Prop:=∃K:Frag,K.In h/\zfA T fns law K=true
variable {fns:List ((String×String)×Fn)}
theorem zlD {T:Tabs} {law:Addr} {n:Nat} {s:Shared} (e:obsK T fns law n s=true):zlE T fns law s.heap:=zee e (fun J J hp=>by cases hp)
theorem zgZ {T:Tabs} {law:Addr} {h h':Heap} (y:zlE T fns law h) (k:∀b o,h.get? b=some o->h'.get? b=some o):zlE T fns law h':=let ⟨K,i,e⟩:=y;⟨K,i.keeps k,e⟩
set_option tactic.hygienic true in
theorem zoE {T:Tabs} {fld:String->String->Bool} {prog:Program} {w:World} {base:Heap} {K:Frag} {mg mb:Str->Option Value} (X:K.In base) (h:zia T fns K=true) (hf:∀c f,fld c f=true->T.fld.contains (c,f)=true) :
  TabOk (cxOf prog w base K T mg mb) (fun c f=>fns.lookup (c,f)) fld:=by
 refine ⟨fun c f F e=>?_,fun c f e=>hf c f e⟩;have hm:=List.all_eq_true.mp h _ (zaO e);dsimp only at hm
 split at hm
 ·rename_i a ha;simp only [qae] at hm;exact ⟨a,ha,znQ X hm.1 fun xs hx=>zoq hm.2 xs hx⟩
 ·cases hm
end Mine.Internal
end
section
open PySem PySem.W PyProof.Rows
namespace Mine.Internal
noncomputable def sig0 (l:Addr) (ns:List Int):Store:=fun a=>if a=l then some (.fixed (ns.map V.int)) else none
theorem zmb (c f:String) (h:zaj c f=true):tabs11.fld.contains (c,f)=true:=by
 simp only [zaj,qae,beq_iff_eq,Bool.or_eq_true] at h
 rcases h with (((((((((⟨rfl,rfl⟩ |⟨rfl,rfl⟩) |⟨rfl,rfl⟩) |⟨rfl,rfl⟩) |⟨rfl,rfl⟩) |⟨rfl,rfl⟩) |⟨rfl,rfl⟩) |⟨rfl,rfl⟩) |⟨rfl,rfl⟩) |⟨rfl,rfl⟩) |⟨rfl,rfl⟩<;>rfl
theorem zoM:Challenge.rw_uf010024_11.wellSaid=true:=by decide +kernel
end Mine.Internal
end
section
open PySem PySem.W PyProof.Rows
namespace Mine.Internal
set_option tactic.hygienic true in
theorem join11 (hlaw:∀(l:Addr) (ns:List Int),ns.length<=63->(sem zae zaj 20 true).run "" "law" [.ref l] (sig0 l ns) (fun v J=>v=.bool true) (fun J J J=>False)):Challenge.rw_uf010024_11.Holds:=by
 refine PySem.W.holds_law zoM fun said=>?_;refine PySem.W.holds_open (q:=q11) (loose:=[]) (XP:=PySem.W.XL q11 []) (YP:=fun J h=>zlE tabs11 fns11 437 h) (N:=7522) (znF (by rfl) (by decide) (fun J=>by rfl) znH znG) (fun J J e=>zlD e) (fun J J J y k=>zgZ y k) (fun s e=>xl_of s (Bool.and_eq_true_iff.mp e).1) PySem.W.XL.keeps (by rfl) (by rfl) (by rfl) (fun s e=>recFacts_of (Bool.and_eq_true_iff.mp e).2) (by rfl) said (by decide +kernel) ⟨rfl,rfl,rfl,rfl,rfl,by decide +kernel⟩ ?hw ?hc
 case hw=>w_witness2
 intro w aG ag mg mb G Y fa o pm cd doc dV kV ho hd hcd hD hmg hg args vals as hpre hlay hrd hwl hlo;refine ob1 Y ?_;clear Y;intro K KX KC;simp only [zfA,qae,beq_iff_eq] at KC;refine ob18 KC ?_;clear KC;intro KT KF KL;refine Ground.open G ?_;intro T B D TE TW
 try (refine guard_noD D (by decide +kernel) ?_;clear D)
 wrow_args hpre hlay hrd hwl hlo
 rename_i ns _ _ _ _ _ _ _ l vs _ hL _ _ _ hI _ hlen _;refine enter_call ?_;refine codeAny_mono ?_ (fun J J g=>GoodW.toG g);clear ho hd hcd hD;have R:=topRead_of T;have CX:=zob (prog:=Challenge.rw_uf010024_11.row.prog) (w:=w) KX R KT;have CI:=zoc (prog:=Challenge.rw_uf010024_11.row.prog) (w:=w) KX R KT;have hfa:fa=437:=by
  have h1:=mg_of KX R.g KL;have h2:mg (Str.ofString "law")=some (.ref fa):=hmg;rw [h1] at h2;cases h2;rfl
 subst hfa;have ca:=zil CX CI (zoE (prog:=Challenge.rw_uf010024_11.row.prog) (mg:=mg) (mb:=mb) (fld:=zaj) KX KF zmb) 20 true;have rel:Rel (cxOf Challenge.rw_uf010024_11.row.prog w ag.heap K tabs11 mg mb) (sig0 l ns) ag.heap:=by
  refine ⟨fun b o e=>e,fun a o h=>?_,fun a o h=>?_,qal _⟩
  ·unfold sig0 at h
   split at h
   ·rename_i e;cases h;subst e;exact ⟨vs,hL,zfg hI,by rw [qac];unfold zao;lia⟩
   ·cases h
  ·unfold sig0 at h
   split at h
   ·cases h;exact .inr ⟨_,rfl⟩
   ·cases h
 refine codeAny_mono (ca.run (c := "") (f := "law") (s:=ag) (A:=callerA) (vs:=[.ref l]) rfl ⟨⟨[],rfl,trivial,fun L hL=>by cases hL⟩,fun J=>rfl,by decide,by decide⟩ rel (.cons .ref .nil) (hlaw l ns (by lia))) fun r s' hr=>?_
 rcases r with e |f
 ·refine ob10 hr ?_;clear hr;intro _ _ _ _ f _;exact f.elim
 ·cases f with
  |ret v=>
   refine lift fun g9 k9=>?_;refine ob2 hr ?_;clear hr;intro V ac ee165;subst ee165;intro hv st;cases hv.bool_of
   apply k9
   clear k9 g9;refine ⟨.inl ⟨_,.bool true,[],rfl,fun J=>rfl,.bool true,?_,fun J=>⟨.nil,fun J h=>by cases h⟩⟩,st.rel.stays,st.os,st.gens.trans hg⟩
   kernel_rfl
  |_=>exact hr.elim
theorem zgz {α:Type} {a:α} {l:List α}:(a::l)[0]?=some a:=rfl
theorem zgs {α:Type} {a:α} {l:List α} {i:Nat}:(a::l)[i+1]?=l[i]?:=rfl
theorem zss {α:Type} {a b:α} {l:List α} {i:Nat}:(a::l).set (i+1) b=a::l.set i b:=rfl
theorem zsz {α:Type} {a b:α} {l:List α}:(a::l).set 0 b=b::l:=rfl
theorem zjs {α:Type} {o:Option α}:(some o).join=o:=rfl
theorem zmc {α β:Type} {f:α->β} {a:α} {l:List α}:(a::l).map f=f a::l.map f:=rfl
theorem zmn {α β:Type} {f:α->β}:([]:List α).map f=[]:=rfl
theorem zlc {α:Type} {a:α} {l:List α}:(a::l).length=l.length+1:=rfl
theorem zln {α:Type}:([]:List α).length=0:=rfl
theorem zac {α:Type} {a:α} {l m:List α}:(a::l)++m=a::(l++m):=rfl
theorem zan {α:Type} {l:List α}:[]++l=l:=rfl
theorem zr0 {α:Type} {a:α}:List.replicate 0 a=[]:=rfl
theorem zrs {α:Type} {a:α} {n:Nat}:List.replicate (n+1) a=a::List.replicate n a:=rfl
open PySem
def Ext (aa ac:Store):Prop:=∀a o,aa a=some o->ac a=some o
theorem Ext.rfl {aa:Store}:Ext aa aa:=fun J J h=>h
variable {aa ac:Store}
theorem Ext.trans {aD:Store} (h:Ext aa ac) (g:Ext ac aD):Ext aa aD:=fun a o e=>g a o (h a o e)
theorem Ext.upd {aa:Store} {a:Addr} {o:AO} (h:Ext aa ac) (g:aa a=none):Ext aa (ac.upd a o):=by
 intro b p e;unfold Store.upd
 by_cases hb:b=a
 ·subst hb;rw [g] at e;cases e
 ·rw [if_neg hb];exact h b p e
theorem Ext.none (h:Ext aa ac) {a:Addr} (g:ac a=none):aa a=none:=by
 cases e:aa a with
 |none=>rfl
 |some o=>rw [h a o e] at g;cases g
@[simp] theorem zab {aa:Store} {a:Addr} {o:AO}:(aa.upd a o) a=some o:=by simp [Store.upd]
theorem zbn {a:Addr} {o p:AO}:(aa.upd a o).upd a p=aa.upd a p:=by funext z;simp [Store.upd];split<;>rfl
theorem zaf {a b:Addr} {o:AO} (h:b≠a):(aa.upd a o) b=aa b:=by simp [Store.upd,h]
theorem zaF {chk:Store->Prop} {B:V->Loc->Store->(Loc->Store->Prop)->Prop} {Q:Loc->Store->Prop} (I:Nat->Loc->Store->Prop)
  {items:List V} {ad:Loc} (h0:I 0 ad aa) (hc:∀k ad aa,I k ad aa->chk aa)
  (hs:∀k v ad aa K,items[k]?=some v->I k ad aa->(∀ak ac,I (k+1) ak ac->K ak ac)->B v ad aa K)
  (he:∀ad aa,I items.length ad aa->Q ad aa):forV chk B Q items ad aa:=by
 suffices g:∀(r:List V) (k:Nat) (ad:Loc) (aa:Store),items.drop k=r->k<=items.length->I k ad aa->forV chk B Q r ad aa from g items 0 ad aa (by simp) (Nat.zero_le _) h0
 intro r
 induction r with
 |nil=>
  intro k ad aa hd hl hi;have hk:items.length<=k:=List.drop_eq_nil_iff.mp hd;have:k=items.length:=by lia
  subst this;exact ⟨hc _ ad aa hi,he ad aa hi⟩
 |cons v r ih=>
  intro k ad aa hd hl hi;have hlt:k<items.length:=by
   have:=congrArg List.length hd;simp at this;lia
  refine ⟨hc k ad aa hi,hs k v ad aa _ ?_ hi fun ak ac hi'=>ih (k+1) ak ac ?_ hlt hi'⟩
  ·have:=congrArg (fun l:List V=>l[0]?) hd
   simpa using this
  ·have:=congrArg List.tail hd
   simpa [List.tail_drop] using this
theorem zej {chk:Store->Prop} {B:V->Store->(Option V->Store->Prop)->Prop} {Q:V->Store->Prop} (I:Nat->List V->Store->Prop)
  {items:List V} (h0:I 0 [] aa) (hc:∀k acc aa,I k acc aa->chk aa/\acc.length<=k) (hl:items.length<=zao)
  (hs:∀k v acc aa K,items[k]?=some v->I k acc aa->(∀x ac,I (k+1) (match x with |some x=>acc++[x] |none=>acc) ac->K x ac)->B v aa K)
  (he:∀acc aa,I items.length acc aa->∀a,aa a=none->Q (.ref a) (aa.upd a (.list acc))):zbR chk B Q items [] aa:=by
 suffices g:∀(r:List V) (k:Nat) (acc:List V) (aa:Store),items.drop k=r->k<=items.length->I k acc aa->zbR chk B Q r acc aa from g items 0 [] aa (by simp) (Nat.zero_le _) h0
 intro r
 induction r with
 |nil=>
  intro k acc aa hd hl hi;have hk:items.length<=k:=List.drop_eq_nil_iff.mp hd;have:k=items.length:=by lia
  subst this;exact ⟨(hc _ acc aa hi).1,he acc aa hi⟩
 |cons v r ih=>
  intro k acc aa hd hl' hi;have hlt:k<items.length:=by
   have:=congrArg List.length hd;simp at this;lia
  have:=(hc k acc aa hi).2;refine ⟨(hc k acc aa hi).1,by lia,hs k v acc aa _ ?_ hi fun x ac hi'=>ih (k+1) _ ac ?_ hlt hi'⟩
  ·have:=congrArg (fun l:List V=>l[0]?) hd
   simpa using this
  ·have:=congrArg List.tail hd
   simpa [List.tail_drop] using this
theorem za2 {n:Int}:(upto 0 n 1).length=n.toNat:=by simp [upto]
theorem zgO {lo hi:Int} {k:Nat} (h:lo+k<hi):(upto lo hi 1)[k]?=some (lo+k):=by
 have:k<(hi-lo).toNat:=by lia
 simp [upto,this]
theorem upto_get' {lo hi x:Int} {k:Nat} (h:(upto lo hi 1)[k]?=some x):x=lo+k/\lo+k<hi:=by
 by_cases hk:lo+k<hi
 ·rw [zgO hk] at h;cases h;exact ⟨rfl,hk⟩
 ·have:(upto lo hi 1).length<=k:=by simp [upto];lia
  rw [List.getElem?_eq_none this] at h;cases h
theorem zbl {lo hi:Int} {k:Nat} {v:V} (h:((upto lo hi 1).map V.int)[k]?=some v):v=.int (lo+k)/\lo+k<hi:=by
 rw [qau] at h;cases e:(upto lo hi 1)[k]? with
 |none=>rw [e] at h;cases h
 |some x=>rw [e] at h;cases h;obtain ⟨rfl,g⟩:=upto_get' e;exact ⟨rfl,g⟩
section
variable {aa:Store} {Q:V->Store->Prop} {a b:Int}
variable {o:AO}
theorem zbB {a:Addr} {P:Prop} (h:aa a=some o) (g:aa a=none):P:=by
 rw [g] at h;cases h
theorem zeL {y z:Addr} {rs:List Addr} (g:y∈rs) (h:z∉rs):y≠z:=fun e=>h (e▸g)
theorem zaH {a b:Addr} (h:aa a=some o) (g:aa b=none):a≠b:=fun e=>zbB h ((congrArg aa e).trans g)
theorem zc6 {a b:Addr} (g:aa b=none) (h:aa a=some o):b≠a:=(zaH h g).symm
theorem za7 {a b:Addr} {u:AO} (h:aa a=some o) (g:aa b=some u) (n:o≠u):a≠b:=fun e=>n (Option.some.inj (h.symm.trans ((congrArg aa e).trans g)))
theorem zgi:zkx "MOST_PLACES" = some 40:=rfl
theorem go_b {b:Bool} {K:Bool->Prop} (h:K b):zam (truthy aa (.bool b)) K:=h
variable {B:Prop}
theorem zaI {A:Prop} (h:A):zam (truthy aa (.bool true)) fun b=>if b=true then A else B:=h
theorem zhm {A:Prop} (h:B):zam (truthy aa (.bool true)) fun b=>if b=false then A else B:=h
theorem zaq {A:Prop} (h:B):zam (truthy aa (.bool false)) fun b=>if b=true then A else B:=h
theorem za0 {A:Prop} (h:A):zam (truthy aa (.bool false)) fun b=>if b=false then A else B:=h
variable {vs:List V}
theorem zg2 {a:Addr} {K:List V->Prop} (h:aa a=some (.list vs)):zg4 aa (.ref a) K=K vs:=by
 show (match aa a with |some (.list vs)=>K vs |some (.fixed vs)=>K vs |_=>False)=_
 rw [h]
theorem zg3 {a:Addr} {K:List V->Prop} (h:aa a=some (.fixed vs)):zg4 aa (.ref a) K=K vs:=by
 show (match aa a with |some (.list vs)=>K vs |some (.fixed vs)=>K vs |_=>False)=_
 rw [h]
variable {md:Bool}
theorem zcQ {a:Addr} (h:aa a=some (.list vs)):b1V md .len (.ref a) aa Q=Q (.int vs.length) aa:=zg2 h
theorem zo1 {a:Addr} (h:aa a=some (.fixed vs)):b1V md .len (.ref a) aa Q=Q (.int vs.length) aa:=zg3 h
variable {v:V}
theorem zkV:b1V md .list v aa Q=zaL aa v fun J vs=>vs.length<=zao/\alloc aa (.list vs) Q:=rfl
theorem zgA:b1V md .sorted v aa Q=((zg1 md aa v fun vs=>zam (zdh vs) fun ws=>alloc aa (.list ws) Q)\/zaL aa v fun J vs=>zni vs fun ws=>alloc aa (.list ws) Q):=rfl
theorem zmW {b:Bool}:b1V md .int (.bool b) aa Q=Q (.int (if b then 1 else 0)) aa:=rfl
theorem zfu {i:Nat} {ad:Loc}:zay (.one i) v ad=some (ad.set i (some v)):=rfl
theorem zel {is:List Nat} {ad:Loc}:zay (.many is) (.tup vs) ad=if is.length=vs.length then some ((is.zip vs).foldl (fun r p=>r.set p.1 (some p.2)) ad) else none:=rfl
theorem isl {a:Addr} (h:aa a=some (.list vs)):zdA aa (.ref a) .list=some true:=by
 show (asL (aa a)).map _=_;rw [h];rfl
@[simp] theorem zb7:binV .Add (.int a) (.int b) aa Q=Q (.int (a+b)) aa:=rfl
@[simp] theorem zdO:binV .Sub (.int a) (.int b) aa Q=Q (.int (a-b)) aa:=rfl
@[simp] theorem zpB:binV .Mult (.int a) (.int b) aa Q=((a.natAbs<2^32/\b.natAbs<2^32)/\Q (.int (a*b)) aa):=rfl
@[simp] theorem zpC:binV .FloorDiv (.int a) (.int b) aa Q=((0<b/\b<1000000000)/\Q (.int (a.fdiv b)) aa):=rfl
@[simp] theorem zmp:binV .Mod (.int a) (.int b) aa Q=(0<b/\Q (.int (a.fmod b)) aa):=rfl
theorem zmq {x y:Addr} {us:List V} (hx:aa x=some (.list us)) (hy:aa y=some (.list vs)) (hl:us.length+vs.length<=zao) (h:∀z,aa z=none->Q (.ref z) (aa.upd z (.list (us++vs)))):binV .Add (.ref x) (.ref y) aa Q:=by
 show zaL aa (.ref x) fun J us=>zaL aa (.ref y) fun J vs=>us.length+vs.length<=zao/\alloc aa (.list (us++vs)) Q;exact zak hx (zak hy ⟨hl,h⟩)
@[simp] theorem zpZ:cmpV aa .Lt (.int a) (.int b)=some (decide (a<b)):=rfl
@[simp] theorem zp0:cmpV aa .LtE (.int a) (.int b)=some (decide (a<=b)):=rfl
@[simp] theorem zkN:cmpV aa .Gt (.int a) (.int b)=some (decide (b<a)):=rfl
@[simp] theorem zp2:cmpV aa .GtE (.int a) (.int b)=some (decide (b<=a)):=rfl
@[simp] theorem zoj:cmpV aa .Eq (.int a) (.int b)=some (a==b):=rfl
@[simp] theorem zpY:cmpV aa .NotEq (.int a) (.int b)=some (!(a==b)):=rfl
variable {u:V}
theorem zcV:cmpV aa .In u v=inV aa u v:=rfl
theorem zaN:cmpV aa .NotIn u v=(inV aa u v).map (!·):=rfl
theorem zfr:cmpV aa .Eq u v=eqv aa fuel u v:=rfl
theorem zcU:cmpV aa .NotEq u v=(eqv aa fuel u v).map (!·):=rfl
@[simp] theorem zp1:cmpV aa .Is u .none=some (noB u):=rfl
@[simp] theorem zjh:cmpV aa .IsNot u .none=some (!(noB u)):=rfl
theorem zki:zhd (.int a) (.int b)=(a==b):=rfl
theorem zlZ {c d:Int}:zhd (.tup [.int a,.int b]) (.tup [.int c,.int d])=(a==c&&b==d):=rfl
@[simp] theorem zcK {r:Bool}:truthy aa (.bool r)=some r:=rfl
@[simp] theorem truthy_none:truthy aa .none=some false:=rfl
end
end Mine.Internal
end
section
namespace Mine.Internal
open PySem
variable {aa:Store}
theorem zbc {C:Loc->Store->(Bool->Store->Prop)->Prop} {B:Loc->Store->(Loc->Store->Prop)->Prop} {Q:Loc->Store->Prop} (I:Nat->Loc->Store->Prop) (N:Nat) {ad:Loc} 
  (h0:I 0 ad aa) (hN:∀k ad aa,I k ad aa->k<=N)
  (hs:∀k ad aa (K:Loc->Store->Prop),I k ad aa->(∀ak ac,I (k+1) ak ac->K ak ac)->C ad aa (fun b ac=>if b then B ad ac K else Q ad ac)):∃m,zdQ C B Q m ad aa:=by
 have key:∀d k ad aa,k+d=N+1->I k ad aa->zdQ C B Q d ad aa:=by
  intro d
  induction d with
  |zero=>intro k ad aa e h;have:=hN k ad aa h;lia
  |succ d ih=>intro k ad aa e h;exact hs k ad aa _ h fun ak ac h'=>ih (k+1) ak ac (by lia) h'
 exact ⟨N+1,key (N+1) 0 ad aa (by lia) h0⟩
noncomputable def zdD (n:Nat) (S:Nat->Bool):List V:=(List.range n).map fun i=>V.bool (S i)
variable {S:Nat->Bool}
theorem zkS {n:Nat}:(zdD n S).length=n:=by simp [zdD]
theorem zkT {n:Nat} {j:Nat} (h:j<n):(zdD n S)[j]?=some (.bool (S j)):=by
 simp [zdD,h]
theorem zkR {n:Nat} {j:Nat}:(zdD n S).set j (.bool true)=zdD n (fun i=>if i=j then true else S i):=by
 apply List.ext_getElem
 ·simp [zdD]
 ·intro i h1 h2;simp only [zdD,List.length_set,qac,List.length_range] at h1;simp only [List.getElem_set,zdD,List.getElem_map,List.getElem_range]
  by_cases e:j=i
  ·subst e;simp
  ·have:i≠j:=fun h=>e h.symm;simp [e,this]
theorem zoQ {Q:V->Store->Prop} {a:Addr} {vs:List V} {x:V} (h:aa a=some (.list (vs++[x]))) (q:Q x (aa.upd a (.list vs))):m0V .pop (.ref a) aa Q:=by
 simp only [m0V];refine zak h ?_
 simpa using q
theorem zby {Q:Store->Prop} {a:Addr} {vs:List V} {i:Int} {x:V} (h:aa a=some (.list vs)) (h0:0<=i) (h1:i<vs.length) (q:Q (aa.upd a (.list (vs.set i.toNat x)))):za4 (.ref a) (.int i) x aa Q:=by
 simp only [za4,h,zc5];exact ⟨⟨h0,h1⟩,q⟩
end Mine.Internal
end
open Mine.Internal
local macro_rules | `(tactic| delta $xs*) => let z := ("zgC zes ziq zdP zdf zde zmv zfB zmw zin zmx zio zk4 zgH zit E_tt E_ff zmD zmB zmA ziA zmF zmC zk8 zk9 zgJ zgK ziB zix ziv E_m0 E_m1 ziC zmE zfG ziy zfF zfH zhB E_b1 ziz zis ziu ziw zou zla zhE zhD zhC zgI zeu zhF zev I_r1 I_r2 I_r3 zk0 zgG zgF zk3 zdI zfe zfd zgM zgL zgE zgD Loc.get zgz zgs zjs zas tgOk onT zfn zfu zel zss zsz zc5 zmc zmn zlc zln zac zan zr0 zrs Nat.reduceAdd Nat.reduceSub".splitOn " ").toArray.map fun s => Lean.mkIdent s.toName; `(tactic| dsimp only [$[$xs:ident],*, $[$z:ident],*])
section
section
namespace Mine.Internal
open PySem
variable {md:Bool} {f:String} {vs:List V} {aa:Store} {Q:V->Store->Prop}
theorem zag {tab:String->String->Option Fn} {fld:String->String->Bool} {k:Nat} {c:String} {F:Fn} {X:XP} (h:tab c f=some F) (w:wpFn (sem tab fld k) md F vs aa Q X) :
  (sem tab fld (k+1) md).run c f vs aa Q X:=by
 rw [zgY];show zam (tab c f) _;rw [h];exact w
theorem zau {k:Nat} {c:String}:(sem zae zaj k md).has c f=(zae c f).isSome:=rfl
theorem zh6 {k:Nat} {c:String}:(sem zae zaj k md).fld c f=(zaj c f=true):=rfl
section
variable {k:Nat} {md:Bool} {aa:Store} {Q:V->Store->Prop} {X:XP}
theorem zo6 {c:Prop} [Decidable c] {A B:Prop} (h:c->A) (g:¬c->B):if c then A else B:=by
 by_cases x:c
 ·rw [if_pos x];exact h x
 ·rw [if_neg x];exact g x
theorem zfc {c:Prop} [Decidable c] {A B:Prop} (x:c) (h:A):if c then A else B:=by rw [if_pos x];exact h
theorem zl1 {c:Prop} [Decidable c] {A B:Prop} (x:¬c) (h:B):if c then A else B:=by rw [if_neg x];exact h
theorem zaa {α:Type} {o:Option α} {a:α} {K:α->Prop} (e:o=some a) (h:K a):zam o K:=by rw [e];exact h
theorem zaz {i n:Int} (h:0<=i) (h':i<n) (q:Q (.bool true) aa):(sem zae zaj (k+1) md).run "" "is_place" [.int i,.int n] aa Q X:=by
 refine zag (F:=zds) rfl ⟨rfl,zfc (c:=decide (0<=i)=true) (qaf h) ?_⟩;show Q (.bool (decide (i<n))) aa;rw [qaf h'];exact q
theorem zbx {i:Int} (q:Q (.bool true) aa):(sem zae zaj (k+1) md).run "" "_law_whole" [.int i] aa Q X:=
 zag (F:=zcY) rfl ⟨rfl,q⟩
theorem sz2:2<=zao:=by decide
end
def zap (n:Int) (p:Int×Int):Prop:=0<=p.1/\p.1<p.2/\p.2<n
def zb0 (n:Int) (T:List (Int×Int)):Prop:=T.Pairwise zaK/\∀p∈T,zap n p
section
variable {k:Nat} {md:Bool} {aa:Store} {Q:V->Store->Prop} {X:XP}
variable {vs:List V} {i:Int} {K:V->Prop}
theorem zdK {v:V} (hi:0<=i) (hv:vs[i.toNat]?=some v) (h:K v):zbt (.int i) fun i=>zam (ziT i vs.length) fun k=>zam vs[k]? K:=by
 have e:ziT i vs.length=some i.toNat:=(if_pos hi).trans (if_pos (List.getElem?_eq_some_iff.mp hv).1);exact zaa e (zaa hv h)
theorem zaG {a:Addr} {v:V} (ha:aa a=some (.list vs)) (hi:0<=i) (hv:vs[i.toNat]?=some v) (h:K v):idxV (.ref a) (.int i) aa K:=
 Eq.mpr (zg2 ha) (zdK hi hv h)
theorem zkt {v:V} (hl:vs.length<=zao) (hi:0<=i) (hv:vs[i.toNat]?=some v) (h:K v):idxV (.tup vs) (.int i) aa K:=⟨hl,zdK hi hv h⟩
theorem zdN {l:Addr} {ns:List Int} (hl:aa l=some (.fixed (ns.map V.int))) (hi:0<=i) (h:∀c,Q (.int c) aa):(sem zae zaj (k+1) md).run "" "_law_cell_at" [.ref l,.int i] aa Q X:=by
 refine zag (F:=zcb) rfl ⟨rfl,?_⟩
 delta zcb
 rw [zo1 hl,qac];refine zaa (a:=decide (i<(ns.length:Int))) rfl ?_
 by_cases x:i<(ns.length:Int)
 ·rw [qaf x];have hi':i.toNat<ns.length:=by lia
  refine zaI (Eq.mpr (zg3 hl) (zdK (v:=.int ns[i.toNat]) hi ?_ (h _)));rw [qau,qas hi'];rfl
 ·rw [qai x];exact zaq (h _)
theorem ze3:(zae "" "_law_cell_at").isSome=true:=rfl
end
section
variable {k:Nat} {md:Bool} {aa:Store} {Q:V->Store->Prop} {X:XP}
theorem zfk {a b:Int} (h:0<b):0<=a.fmod b/\a.fmod b<b:=⟨Int.fmod_nonneg_of_pos a h,Int.fmod_lt_of_pos a h⟩
end
noncomputable def nb1 (i:Int) (p:Int×Int):List Int:=(if p.1=i then [p.2] else [])++(if p.2=i then [p.1] else [])
noncomputable def nb (H:List (Int×Int)) (i:Int):List Int:=H.flatMap (nb1 i)
variable {i:Int} {p:Int×Int}
theorem zj8 {x:Int}:x∈nb1 i p↔p=(i,x)\/p=(x,i):=by
 obtain ⟨a,b⟩:=p;simp [nb1]
 constructor
 ·rintro (⟨h1,h2⟩ |⟨h1,h2⟩)
  ·exact Or.inl ⟨h1,h2.symm⟩
  ·exact Or.inr ⟨h2.symm,h1⟩
 ·rintro (⟨h1,h2⟩ |⟨h1,h2⟩)
  ·exact Or.inl ⟨h1,h2.symm⟩
  ·exact Or.inr ⟨h2,h1.symm⟩
variable {H:List (Int×Int)}
theorem mem_nb {x:Int}:x∈nb H i↔(i,x)∈H\/(x,i)∈H:=by
 simp [nb,zj8]
 constructor
 ·rintro ⟨a,b,h,h' |h'⟩<;>obtain ⟨rfl,rfl⟩:=h'
  ·exact Or.inl h
  ·exact Or.inr h
 ·rintro (h |h)
  ·exact ⟨_,_,h,Or.inl ⟨rfl,rfl⟩⟩
  ·exact ⟨_,_,h,Or.inr ⟨rfl,rfl⟩⟩
variable {T:List (Int×Int)}
theorem zj4 (h:H.Perm T):(nb H i).Perm (nb T i):=List.Perm.flatMap_right _ h
theorem zj5:nb (H++T) i=nb H i++nb T i:=by simp [nb]
variable {n:Int}
theorem zhZ (hn:H.Nodup) (ht:∀p∈H,zap n p):(nb H i).Nodup:=by
 induction H with
 |nil=>simp [nb]
 |cons p H ih=>
  have h1:=ih (qar.mp hn).2 (fun q hq=>ht q (qag _ hq));have h2:=(qar.mp hn).1;have h3:=ht p (qaj ..);show (nb1 i p++nb H i).Nodup;refine List.nodup_append.mpr ⟨?_,h1,?_⟩
  ·obtain ⟨a,b⟩:=p;unfold zap at h3;simp only at h3;simp only [nb1]
   split<;>split<;>simp
   lia
  ·intro x hx y hy e;subst e;rw [zj8] at hx;rw [mem_nb] at hy
   rcases hx with rfl |rfl<;>rcases hy with hy |hy
   ·exact h2 hy
   ·have:=ht _ (qag _ hy);unfold zap at this h3;simp only at this h3;lia
   ·have:=ht _ (qag _ hy);unfold zap at this h3;simp only at this h3;lia
   ·exact h2 hy
theorem za5 {m:Nat}:∀{l:List Int},l.Nodup->(∀x∈l,0<=x/\x<m)->l.length<=m:=by
 induction m with
 |zero=>
  intro l J h;cases l with
  |nil=>simp
  |cons a l=>have:=h a (qaj ..);lia
 |succ m ih=>
  intro l hn h;have h1:=ih (hn.erase (m:Int)) (fun x hx=>by
   have hx':=(hn.mem_erase_iff).mp hx;have:=h x hx'.2;have:=hx'.1
   lia)
  by_cases hm:(m:Int)∈l
  ·rw [List.length_erase_of_mem hm] at h1;lia
  ·rw [List.erase_of_not_mem hm] at h1;lia
theorem zeJ {n:Int} {i:Int} (hn:H.Nodup) (ht:∀p∈H,zap n p) (h0:0<=n) (h40:n<=40):(nb H i).length<=40:=by
 refine za5 (zhZ hn ht) fun x hx=>?_
 rcases mem_nb.mp hx with h |h
 ·have:=ht _ h;unfold zap at this;simp only at this;lia
 ·have:=ht _ h;unfold zap at this;simp only at this;lia
noncomputable def zaw (l:List Int):List Int:=l.mergeSort (fun a b=>decide (a<=b))
theorem zaT (l:List Int):(zaw l).Perm l:=List.mergeSort_perm _ _
theorem zcj (l:List Int):(zaw l).Pairwise (· <= ·):=by
 have:=List.pairwise_mergeSort (le:=fun a b:Int=>decide (a<=b)) (by simp;lia) (by simp;lia) l
 simpa [zaw] using this
variable {l:List Int}
theorem zdx {m:List Int} (hl:l.Pairwise (· <= ·)) (hm:m.Pairwise (· <= ·)) (h:l.Perm m):l=m:=
 List.Perm.eq_of_pairwise (fun a b J J h1 h2=>by lia) hl hm h
theorem zlu {m:List Int} (h:l.Perm m):zaw l=zaw m:=
 zdx (zcj l) (zcj m) (((zaT l).trans h).trans (zaT m).symm)
theorem ints?_map (l:List Int):ints? (l.map V.int)=some l:=by
 induction l with
 |nil=>rfl
 |cons a l ih=>
  show (ints? (l.map V.int)).map (a :: ·)=_;rw [ih];rfl
theorem zdw (h:l.length<64):zdh (l.map V.int)=some ((zaw l).map V.int):=by
 simp [zdh,h,ints?_map,zaw]
def Frm (d:Addr) (aa ac:Store):Prop:=∀a o,a≠d->aa a=some o->ac a=some o
variable {d:Addr} {ac:Store}
theorem Frm.trans {aD:Store} (h:Frm d aa ac) (g:Frm d ac aD):Frm d aa aD:=fun a o n e=>g a o n (h a o n e)
theorem Frm.ext {aa aD:Store} (h:Frm d aa ac) (g:Ext ac aD):Frm d aa aD:=fun a o n e=>g a o (h a o n e)
theorem Frm.upd {d:Addr} {aa:Store} {o:AO} (h:Frm d aa ac):Frm d aa (ac.upd d o):=fun a p n e=>(zaf n).trans (h a p n e)
theorem Frm.none {a:Addr} (h:Frm d aa ac) (n:a≠d) (g:ac a=none):aa a=none:=by
 cases e:aa a with
 |none=>rfl
 |some o=>rw [h a o n e] at g;cases g
structure Rows (aa:Store) (r:Addr) (rs:List Addr) (n:Nat) (f:Nat->List Int):Prop where
 top:aa r=some (.list (rs.map V.ref))
 len:rs.length=n
 nod:rs.Nodup
 row:∀i a,rs[i]?=some a->aa a=some (.list ((f i).map V.int))
section
variable {k:Nat} {aa:Store} {Q:V->Store->Prop} {X:XP}
theorem zhT {n:Nat} (hn:n<=1000) {items:List V} (hi:items.length=n) {aa:Store} {B:V->Store->(Option V->Store->Prop)->Prop} {Q:V->Store->Prop}
  (hB:∀v aa K,(∀a,aa a=none->K (some (.ref a)) (aa.upd a (.list [])))->B v aa K)
  (h:∀r rs ac,Ext aa ac->aa r=none->(∀a∈rs,aa a=none)->r∉rs->Rows ac r rs n (fun J=>[])->Q (.ref r) ac) :
  zbR (fun J=>True) B Q items [] aa:=by
 refine zej (fun i acc ac=>∃rs,acc=rs.map V.ref/\rs.length=i/\rs.Nodup/\Ext aa ac/\∀a∈rs,aa a=none/\ac a=some (.list []))
  ⟨[],by simp,by simp,by simp,Ext.rfl,by simp⟩ ?_ (by unfold zao;lia) ?_ ?_
 ·intro i acc ac zz10;refine ob6 zz10 ?_;clear zz10;intro rs ee166;subst ee166;intro h1 J;simp [h1]
 ·intro i v acc ac K hv zz11;refine ob35 zz11 ?_;clear zz11;intro rs ee167;subst ee167;intro h1 h2 h3 h4;intro hK;refine hB v ac K fun a ha=>hK _ _ ⟨rs++[a],by simp,by simp [h1],?_,h3.upd (h3.none ha),?_⟩
  ·refine List.nodup_append.mpr ⟨h2,by simp,?_⟩
   intro x hx y hy e;simp at hy;subst hy;subst e;rw [(h4 x hx).2] at ha;cases ha
  ·intro x hx
   rcases qao.mp hx with hx' |hx
   ·refine ob16 (h4 x hx') ?_;intro g1 g2;refine ⟨g1,?_⟩;rw [zaf (zaH g2 ha)];exact g2
   ·simp at hx;subst hx;exact ⟨h3.none ha,zab⟩
 ·intro acc ac zz12;refine ob35 zz12 ?_;clear zz12;intro rs ee168;subst ee168;intro h1 h2 h3 h4;intro r hr;have hnot:r∉rs:=fun hm=>zbB (h4 r hm).2 hr;refine h r rs _ (h3.upd (h3.none hr)) (h3.none hr) (fun a ha=>(h4 a ha).1) hnot ⟨zab,by lia,h2,?_⟩
  intro i a ha;have hm:a∈rs:=qav ha;rw [zaf (zeL hm hnot)]
  simpa using (h4 a hm).2
variable {rs:List Addr} {f:Nat->List Int}
theorem Rows.congr {aa:Store} {r:Addr} {n:Nat} {g:Nat->List Int} (h:Rows aa r rs n f) (e:∀i,i<n->f i=g i):Rows aa r rs n g:=by
 refine ⟨h.top,h.len,h.nod,fun i a ha=>?_⟩;have hi:i<n:=by
  rw [←h.len]
  rcases Nat.lt_or_ge i rs.length with g |g
  ·exact g
  ·rw [List.getElem?_eq_none g] at ha;cases ha
 rw [←e i hi];exact h.row i a ha
theorem Rows.keep {aa ac:Store} {r:Addr} {n:Nat} (h:Rows aa r rs n f) (e:∀a,a=r\/a∈rs->ac a=aa a):Rows ac r rs n f:=
 ⟨by rw [e r (Or.inl rfl)];exact h.top,h.len,h.nod,fun i a ha=>by rw [e a (Or.inr (qav ha))];exact h.row i a ha⟩
theorem Rows.put {aa:Store} {r:Addr} {n:Nat} (h:Rows aa r rs n f) (hr:r∉rs) {i:Nat} {a:Addr} (ha:rs[i]?=some a) (l:List Int) :
  Rows (aa.upd a (.list (l.map V.int))) r rs n (fun j=>if j=i then l else f j):=by
 have hm:=qav ha;refine ⟨?_,h.len,h.nod,fun j b hb=>?_⟩
 ·rw [zaf (zeL hm hr).symm];exact h.top
 ·by_cases hj:j=i
  ·subst hj;rw [ha] at hb;cases hb;simp
  ·have hab:b≠a:=by
    rintro rfl;have hi:i<rs.length:=by
     rcases Nat.lt_or_ge i rs.length with g |g
     ·exact g
     ·rw [List.getElem?_eq_none g] at ha;cases ha
    exact hj ((List.getElem?_inj hi h.nod).mp (ha.trans hb.symm)).symm
   rw [zaf hab,if_neg hj];exact h.row j b hb
theorem zaP {F:String->String->Prop} {x d:Addr} {c name:String} {fs:List (String×V)} {v:V} {K:V->Prop} (hx:aa x=some (.inst c d)) (hd:aa d=some (.ns fs)) (hF:F c name) (hl:fs.lookup name=some v) (h:K v):zb9 F (.ref x) name aa K:=by
 exact zah hx hd ⟨hF,zaa hl h⟩
theorem zaJ {a:Addr} {vs:List V} {x:V} (ha:aa a=some (.list vs)) (hl:vs.length<zao) (h:Q .none (aa.upd a (.list (vs++[x])))):m1V .append (.ref a) x aa Q:=by
 exact zak ha ⟨hl,h⟩
variable {p:Int×Int}
theorem zbP {K:V->Prop} (h:K (.int p.1)):idxV (pr p) (.int 0) aa K:=zkt (by simp [zao]) (by lia) rfl h
theorem zbO {K:V->Prop} (h:K (.int p.2)):idxV (pr p) (.int 1) aa K:=zkt (by simp [zao]) (by lia) rfl h
theorem zgc {D:List (Int×Int)}:zbJ (D.map pr)=true:=by
 have:(D.map pr).all zff=true:=List.all_eq_true.mpr fun x hx=>by
  refine ob1 (List.mem_map.mp hx) ?_;intro p J ee169;subst ee169
  rfl
 show (_||_)=true;rw [this,Bool.or_true]
theorem zgh {D:List (Int×Int)}:zbK (pr p) (D.map pr)=decide (p∈D):=by
 induction D with
 |nil=>rfl
 |cons q D ih=>
  have:zbK (pr p) ((q::D).map pr)=(zhd (pr q) (pr p)||zbK (pr p) (D.map pr)):=rfl;rw [this,ih];refine lift fun g9 k9=>?_;obtain ⟨a,b⟩:=p;obtain ⟨c,d⟩:=q
  apply k9
  clear k9 g9;rw [Bool.eq_iff_iff];simp [zlZ,pr]
  constructor
  ·rintro (⟨rfl,rfl⟩ |h)
   ·exact Or.inl ⟨rfl,rfl⟩
   ·exact Or.inr h
  ·rintro (⟨rfl,rfl⟩ |h)
   ·exact Or.inl ⟨rfl,rfl⟩
   ·exact Or.inr h
theorem fldN {md:Bool}:(sem zae zaj k md).fld "Net" "rows" := by rw [zh6];rfl
theorem fldS {md:Bool}:(sem zae zaj k md).fld "Net" "size" := by rw [zh6];rfl
end
section
variable {k:Nat} {aa:Store} {Q:V->Store->Prop} {X:XP}
variable {D:List (Int×Int)} {p:Int×Int}
theorem zoS {i:Int} (h:p.1≠p.2):nb (D++[p]) i=if i=p.1 then nb D i++[p.2] else if i=p.2 then nb D i++[p.1] else nb D i:=by
 rw [zj5];have:nb [p] i=nb1 i p:=by simp [nb]
 rw [this];unfold nb1
 by_cases h1:i=p.1
 ·subst h1;have h2:¬(p.2=p.1):=fun e=>h e.symm;simp [h2]
 ·by_cases h2:i=p.2
  ·subst h2;simp [h,h1]
  ·have h3:¬(p.1=i):=fun e=>h1 e.symm;have h4:¬(p.2=i):=fun e=>h2 e.symm;simp [h1,h2,h3,h4]
theorem Rows.two {r a b:Addr} {rs:List Addr} {n:Int} (hR:Rows aa r rs n.toNat fun i=>nb D i) (hr:r∉rs) (hp:zap n p) (ha:rs[p.1.toNat]?=some a) (hb:rs[p.2.toNat]?=some b) :
  (aa.upd a (.list ((nb D p.1).map V.int++[.int p.2]))) b=some (.list ((nb D p.2).map V.int))/\Rows ((aa.upd a (.list ((nb D p.1).map V.int++[.int p.2]))).upd b (.list ((nb D p.2).map V.int++[.int p.1]))) r rs n.toNat fun i=>nb (D++[p]) i:=by
 refine ob19 hp ?_;clear hp;intro h0 h1 h2;have n1:=Int.toNat_of_nonneg h0;have n2:=Int.toNat_of_nonneg (Int.le_trans h0 (Int.le_of_lt h1));have h5:p.2.toNat≠p.1.toNat:=fun e=>Int.ne_of_lt h1 (by rw [←n1,←n2,e])
 have hR2:=hR.put hr ha (nb D p.1++[p.2]);have hrow:=hR2.row _ _ hb;rw [if_neg h5,n2] at hrow;have hR3:=hR2.put hr hb (nb D p.2++[p.1]);rw [List.map_append] at hrow hR3;rw [List.map_append] at hR3;refine ⟨hrow,hR3.congr fun i hi=>?_⟩;show _=nb (D++[p]) i;rw [zoS (Int.ne_of_lt h1)]
 by_cases g2:i=p.2.toNat
 ·subst g2;rw [if_pos rfl,n2,if_neg (Int.ne_of_gt h1),if_pos rfl]
 ·rw [if_neg g2,if_neg (show ¬(i:Int)=p.2 from fun e=>g2 (by rw [←e,Int.toNat_natCast]))]
  by_cases g1:i=p.1.toNat
  ·subst g1;rw [if_pos rfl,n1,if_pos rfl]
  ·rw [if_neg g1,if_neg (show ¬(i:Int)=p.1 from fun e=>g1 (by rw [←e,Int.toNat_natCast]))]
theorem zl5 {x d r s w:Addr} {rs:List Addr} {n:Int} {t5 t6:Option V} {N R Y}
  (hx:aa x=some (.inst "Net" d)) (hd:aa d=some (.ns [("size",.int n),("rows",.ref r)])) (hs:aa s=some (.dict (D.map pr)))
  (hR:Rows aa r rs n.toNat (fun i=>nb D i)) (hr:r∉rs) (hxs:x≠s) (hds:d≠s) (hxr:x∉rs) (hdr:d∉rs) (hrs:r≠s) (hsr:s∉rs)
  (hD:D.length<=2000) (hl:∀i,(nb D i).length<=40) (hp:zap n p) (hpD:p∉D)
  (hN:∀ac,(∀a,a≠s->a∉rs->ac a=aa a)->ac s=some (.dict ((D++[p]).map pr))->Rows ac r rs n.toNat (fun i=>nb (D++[p]) i) ->
   N [some (.ref x),some (.int n),some (.ref w),some (.ref s),some (pr p),t5,t6] ac) :
  wpSs (sem zae zaj k) true T_Net_init_1 [some (.ref x),some (.int n),some (.ref w),some (.ref s),some (pr p),t5,t6] aa N R Y:=by
 refine ob19 hp ?_;clear hp;intro h0 h1 h2;have ha:p.1.toNat<rs.length:=by rw [hR.len];lia
 have hb:p.2.toNat<rs.length:=by rw [hR.len];lia
 obtain ⟨a,ha⟩:∃a,rs[p.1.toNat]?=some a:=⟨_,qas ha⟩;obtain ⟨b,hb⟩:∃a,rs[p.2.toNat]?=some a:=⟨_,qas hb⟩;have hma:=qav ha;have hmb:=qav hb;have ne {z:Addr} (h:z∉rs) {y:Addr} (g:y∈rs):z≠y:=fun e=>h (e▸g);have hnk:zaY (pr p) (D.map pr)=(D++[p]).map pr:=by
  rw [zaY,zgh,qai hpD,List.map_append];rfl
 have hko:zbJ (pr p::D.map pr)=true:=zgc (D:=p::D)
 delta T_Net_init_1 Loc.get zas
 simp only [za4,hs];refine ⟨⟨hko,by rw [qac];unfold zao;lia,trivial⟩,?_⟩
 rw [hnk];have hR1:Rows (aa.upd s (.dict ((D++[p]).map pr))) r rs n.toNat (fun i=>nb D i):=hR.keep fun z hz=>zaf (hz.elim (fun e=>e▸hrs) fun m e=>hsr (e▸m));have n1:=Int.toNat_of_nonneg h0;have hb0:0<=p.2:=Int.le_trans h0 (Int.le_of_lt h1);have ha1:=hR1.row _ _ ha;rw [n1] at ha1;have T:=hR1.two hr ⟨h0,h1,h2⟩ ha hb;refine zaP ((zaf hxs).trans hx) ((zaf hds).trans hd) fldN rfl ?_;refine zbP (zaG hR1.top h0 (by rw [qau,ha];rfl) ?_)
 refine zak ha1 (zbO (zaJ ha1 (by have:=hl p.1;rw [qac];unfold zao;lia) ?_))
 have hrr:=zeL hma hr;refine zaP ((zaf (ne hxr hma)).trans ((zaf hxs).trans hx)) ((zaf (ne hdr hma)).trans ((zaf hds).trans hd)) fldN rfl ?_;refine zbO (zaG ((zaf hrr.symm).trans hR1.top) hb0 (by rw [qau,hb];rfl) ?_)
 refine zak T.1 (zbP (zaJ T.1 (by have:=hl p.2;rw [qac];unfold zao;lia) ?_))
 refine hN _ (fun z hz hz'=>?_) ?_ T.2
 ·rw [zaf (ne hz' hmb),zaf (ne hz' hma),zaf hz]
 ·rw [zaf (ne hsr hmb),zaf (ne hsr hma)];exact zab
end
section
variable {k:Nat} {aa:Store} {Q:V->Store->Prop} {X:XP}
theorem zfM:(zae "" "is_tie").isSome=true:=rfl
theorem zbe:(zae "" "is_place").isSome=true:=rfl
theorem zeb {md:Bool} {n:Int} {p:Int×Int} (h:zap n p) (q:Q (.bool true) aa):(sem zae zaj (k+2) md).run "" "is_tie" [pr p,.int n] aa Q X:=by
 refine zag (F:=zir) rfl ⟨rfl,sz2,sz2,?_⟩;refine zaz h.1 (Int.lt_trans h.2.1 h.2.2) ⟨sz2,zaz (Int.le_trans h.1 (Int.le_of_lt h.2.1)) h.2.2 ⟨sz2,sz2,?_⟩⟩;show Q (.bool (decide (p.1<p.2))) aa;rw [qaf h.2.1];exact q
theorem zgf {x d r s w:Addr} {rs:List Addr} {n:Int} {D:List (Int×Int)} {p:Int×Int} {t5 t6:Option V} {N R Y}
  (hx:aa x=some (.inst "Net" d)) (hd:aa d=some (.ns [("size",.int n),("rows",.ref r)])) (hs:aa s=some (.dict (D.map pr)))
  (hR:Rows aa r rs n.toNat (fun i=>nb D i)) (hr:r∉rs) (hxs:x≠s) (hds:d≠s) (hxr:x∉rs) (hdr:d∉rs) (hrs:r≠s) (hsr:s∉rs)
  (hD:D.length<=2000) (hl:∀i,(nb D i).length<=40) (hp:zap n p) (hpD:p∉D)
  (hN:∀ac,(∀a,a≠s->a∉rs->ac a=aa a)->ac s=some (.dict ((D++[p]).map pr))->Rows ac r rs n.toNat (fun i=>nb (D++[p]) i) ->
   N [some (.ref x),some (.int n),some (.ref w),some (.ref s),some (pr p),t5,t6] ac) :
  wpSs (sem zae zaj (k+2)) true L_Net_init_1 [some (.ref x),some (.int n),some (.ref w),some (.ref s),some (pr p),t5,t6] aa N R Y:=by
 have hko:zbJ (pr p::D.map pr)=true:=zgc (D:=p::D)
 delta L_Net_init_1 Loc.get zas zau zfM onT
 refine zeb hp ?_;simp only [zcK,zas,Bool.not_true,Bool.false_eq_true,if_true,zcV,inV,hs,hko,zgh,hpD,decide_false,if_false];exact zl5 hx hd hs hR hr hxs hds hxr hdr hrs hsr hD hl hp hpD hN
theorem zfW {r:Addr} {rs:List Addr} {n:Nat} {f:Nat->List Int} {B:V->Store->(Option V->Store->Prop)->Prop} (hn:n<=1000) (hR:Rows aa r rs n f) (hl:∀i,(f i).length<64)
  (hB:∀a l aa K,aa a=some (.list (l.map V.int))->l.length<64->(∀b,aa b=none->K (some (.ref b)) (aa.upd b (.list ((zaw l).map V.int))))->B (.ref a) aa K)
  (h:∀r' rs' ac,Ext aa ac->aa r'=none->(∀a∈rs',aa a=none)->r'∉rs'->Rows ac r' rs' n (fun i=>zaw (f i))->Q (.ref r') ac) :
  zbR (fun ac=>ac r=some (.list (rs.map V.ref))) B Q (rs.map V.ref) [] aa:=by
 refine zej (fun i acc ac=>∃rs',acc=rs'.map V.ref/\rs'.length=i/\rs'.Nodup/\Ext aa ac/\(∀a∈rs',aa a=none)/\∀(j:Nat) a,rs'[j]?=some a->ac a=some (.list ((zaw (f j)).map V.int)))
  ⟨[],rfl,rfl,.nil,Ext.rfl,fun a h=>absurd h qam,fun j a h=>by rw [List.getElem?_nil] at h;cases h⟩ ?_ (by rw [qac,hR.len];unfold zao;lia) ?_ ?_
 ·intro i acc ac zz13;refine ob35 zz13 ?_;clear zz13;intro rs' ee170;subst ee170;intro h1 J h3 J;exact ⟨h3 _ _ hR.top,by rw [qac,h1];exact qal _⟩
 ·intro i v acc ac K hv zz14;refine ob55 zz14 ?_;clear zz14;intro rs' ee171;subst ee171;intro h1 h2 h3 h4 h5;intro hK;rw [qau] at hv;refine ob1 (Option.map_eq_some_iff.mp hv) ?_;intro a ha ee172;subst ee172;refine hB a (f i) ac K (h3 _ _ (hR.row i a ha)) (hl i) fun b hb=>hK _ _ ⟨rs'++[b],by rw [List.map_append];rfl,by rw [qat,h1];rfl,?_,h3.upd (h3.none hb),fun y hy=>(qao.mp hy).elim (h4 y) fun e=>qah.mp e▸h3.none hb,fun j y hy=>?_⟩
  ·refine List.nodup_append.mpr ⟨h2,List.pairwise_singleton _ _,fun y hy z hz e=>?_⟩;refine ob14 (List.mem_iff_getElem?.mp hy) ?_;intro j hj;exact zbB (h5 j y hj) (e.trans (qah.mp hz)▸hb)
  ·by_cases hj:j<rs'.length
   ·rw [List.getElem?_append_left hj] at hy;have:=h5 j y hy;exact (zaf (zaH this hb)).trans this
   ·rw [List.getElem?_append_right (Nat.not_lt.mp hj),List.getElem?_singleton] at hy
    split at hy
    ·cases hy;rw [show j=i by lia];exact zab
    ·cases hy
 ·intro acc ac zz15;refine ob55 zz15 ?_;clear zz15;intro rs' ee173;subst ee173;intro h1 h2 h3 h4 h5;intro r' hr';refine h r' rs' _ (h3.upd (h3.none hr')) (h3.none hr') h4 (fun hm=>(List.mem_iff_getElem?.mp hm).elim fun j hj=>zbB (h5 j r' hj) hr') ⟨zab,by rw [h1,qac,hR.len],h2,fun i a ha=>?_⟩
  have:=h5 i a ha;exact (zaf (zaH this hr')).trans this
theorem zdZ {a:Addr} {l:List Int} (ha:aa a=some (.list (l.map V.int))) (hl:l.length<64) (h:∀b,aa b=none->Q (.ref b) (aa.upd b (.list ((zaw l).map V.int)))):b1V true .sorted (.ref a) aa Q:=
 .inl (ziW ha (by rw [zdw hl];exact h))
theorem zkr {x d r s w:Addr} {rs:List Addr} {n:Int} {H:List (Int×Int)} {t4 t5 t6:Option V} {R Y} {N:Loc->Store->Prop}
  (hx:aa x=some (.inst "Net" d)) (hd:aa d=some (.ns [("size",.int n),("rows",.ref r)])) (hxd:x≠d)
  (hR:Rows aa r rs n.toNat (fun i=>nb H i)) (hdr:d∉rs) (hrd:r≠d) (hn:n<=40) (hl:∀i,(nb H i).length<=40)
  (hN:∀ac r' rs' ad,Frm d aa ac->ac d=some (.ns [("size",.int n),("rows",.ref r')])->Rows ac r' rs' n.toNat (fun i=>zaw (nb H i))->aa r'=none->(∀a∈rs',aa a=none)->r'∉rs'->N ad ac) :
  wpSs (sem zae zaj k) true T_Net_init_2 [some (.ref x),some (.int n),some (.ref w),some (.ref s),t4,t5,t6] aa N R Y:=by
 delta T_Net_init_2
 refine zaP hx hd fldN rfl ?_;refine zak (K:=fun a vs=>zbR (fun ac=>ac a=some (.list vs)) _ _ vs [] aa) hR.top (zfW (by lia) hR (fun i=>Nat.lt_of_le_of_lt (hl i) (by decide)) (fun a l ac K ha hl h=>zfc rfl (zdZ ha hl h)) fun r' rs' ac hE hr' hrs' hnot hR'=>?_)
 refine zah (hE _ _ hx) (hE _ _ hd) ⟨⟨fldN,show 2<100 by decide⟩,?_⟩
 refine hN _ r' rs' _ (Frm.upd fun a o J e=>hE a o e) (by rw [zab];rfl) (hR'.keep fun a ha=>zaf ?_) hr' hrs' hnot
 exact ha.elim (fun e=>e▸zc6 hr' hd) fun m=>zc6 (hrs' a m) hd
end
section
variable {k:Nat} {aa:Store} {Q:V->Store->Prop} {X:XP}
theorem zh8 {l:List (Int×Int)} {i:Nat} {v:V} (h:(l.map pr)[i]?=some v):∃(hi:i<l.length),v=pr l[i]:=by
 rw [qau] at h;refine ob1 (Option.map_eq_some_iff.mp h) ?_;intro y hy ee174;subst ee174;refine ob14 (List.getElem?_eq_some_iff.mp hy) ?_;intro hi ee175;subst ee175;exact ⟨hi,rfl⟩
theorem Rows.at {r:Addr} {rs:List Addr} {n:Nat} {f:Nat->List Int} (h:Rows aa r rs n f) {a:Addr} (m:a∈rs):∃vs,aa a=some (.list vs):=by
 refine ob14 (List.mem_iff_getElem?.mp m) ?_;intro j hj;exact ⟨_,h.row j a hj⟩
theorem zdb {x d w:Addr} {n:Int} {H:List (Int×Int)} (hx:aa x=some (.inst "Net" d)) (hd:aa d=some (.ns [])) (hxd:x≠d)
  (hw:aa w=some (.list (H.map pr))) (h1:1<=n) (h2:n<=40) (hH:H.Nodup) (hT:∀p∈H,zap n p) (hlen:H.length<=2000)
  (hQ:∀ac r rs,Frm d aa ac->ac d=some (.ns [("size",.int n),("rows",.ref r)])->Rows ac r rs n.toNat (fun i=>zaw (nb H i))->aa r=none->(∀a∈rs,aa a=none)->r∉rs->Q .none ac) :
  (sem zae zaj (k+3) true).run "Net" "__init__" [.ref x,.int n,.ref w] aa Q X:=by
 refine zag (F:=zb1) rfl ⟨rfl,?_⟩
 delta zb1 zau zbe
 simp only [zgi,zb7];refine zaz (by lia) (by lia) (go_b (za0 (zaa (congrArg some (qai (Int.not_lt.mpr h1))) (za0 (zaa (isl hw) (go_b (zaq ?_)))))))
 delta T_Net_init_4
 refine zah hx hd ⟨⟨fldS,by decide⟩,⟨by lia,by lia⟩,?_⟩
 refine zhT (n:=n.toNat) (by lia) (by rw [qac,za2]) (fun v ac K h=>⟨Nat.zero_le _,h⟩) ?_
 intro r rs au hE hr hrs hrr hR;have hxu:(aa.upd d (.ns [("size",.int n)])) x=some (.inst "Net" d):=(zaf hxd).trans hx;have hwd:w≠d:=za7 hw hd (fun e=>by cases e)
 have hwu:(aa.upd d (.ns [("size",.int n)])) w=some (.list (H.map pr)):=(zaf hwd).trans hw;have hxr:x∉rs:=fun h=>zbB hxu (hrs _ h);have hdr:d∉rs:=fun h=>zbB zab (hrs _ h);have hrd:r≠d:=zc6 hr zab;have hx2:=hE _ _ hxu;have hd2:au d=some (.ns [("size",.int n)]):=hE _ _ zab;refine zah hx2 hd2 ⟨⟨fldN,show 1<100 by decide⟩,?_⟩
 show wpSs _ _ T_Net_init_3 _ (au.upd d (.ns [("size",.int n),("rows",.ref r)])) _ _ _
 delta T_Net_init_3 zb6
 simp only [alloc];intro s hs;have hsd:s≠d:=zc6 hs zab;rw [zaf hsd] at hs;have hsx:x≠s:=zaH hx2 hs;have hsr:r≠s:=zaH hR.top hs;have hsrs:s∉rs:=fun h=>(hR.at h).elim fun J e=>zbB e hs;have hw2:=hE _ _ hwu;have hws:w≠s:=zaH hw2 hs;have hwrs:w∉rs:=fun h=>zbB hwu (hrs _ h);have frs:∀a,a≠d->(a=s\/a∈rs)->aa a=none:=fun a had h=>(zaf had).symm.trans (h.elim (fun e=>(congrArg _ e).trans (hE.none hs)) (hrs a));refine zak ((zaf hws).trans ((zaf hwd).trans hw2)) ?_;refine zaF (fun j ad ac=>ac s=some (.dict ((H.take j).map pr))/\Rows ac r rs n.toNat (fun i=>nb (H.take j) i) /\
   (∀a,a≠s->a∉rs->ac a=((au.upd d (.ns [("size",.int n),("rows",.ref r)])).upd s (.dict [])) a)/\∃t4 t5 t6,ad=[some (.ref x),some (.int n),some (.ref w),some (.ref s),t4,t5,t6])
  ⟨zab,?_,fun J J J=>rfl,_,_,_,rfl⟩ ?_ ?_ ?_
 ·refine (hR.congr (fun i J=>rfl)).keep fun a ha=>?_;have n1:a≠s:=ha.elim (fun e=>e▸hsr) fun z e=>hsrs (e▸z);have n2:a≠d:=ha.elim (fun e=>e▸hrd) fun z e=>hdr (e▸z);rw [zaf n1,zaf n2]
 ·intro j ad ac zz16;refine ob57 zz16 ?_;clear zz16;intro J J h J;rw [h w hws hwrs,zaf hws,zaf hwd];exact hw2
 ·intro j v ad ac K hv zz17;refine ob58 zz17 ?_;clear zz17;intro hs' hR' hfr t4 t5 t6 ee176;subst ee176;intro hK;simp only [List.set_cons_succ,List.set_cons_zero];refine ob14 (zh8 hv) ?_;intro hjl ee177;subst ee177;have htake:H.take (j+1)=H.take j++[H[j]]:=List.take_succ_eq_append_getElem hjl;refine zgf (d:=d) (r:=r) (rs:=rs) (D:=H.take j) ?_ ?_ hs' hR' hrr hsx hsd.symm hxr hdr hsr hsrs (by rw [List.length_take];lia) ?_ (hT _ (List.getElem_mem hjl)) ?_ ?_
  ·rw [hfr x hsx hxr,zaf hsx,zaf hxd];exact hx2
  ·rw [hfr d hsd.symm hdr,zaf hsd.symm,zab]
  ·exact fun i=>zeJ (n:=n) (hH.sublist (List.take_sublist ..)) (fun q hq=>hT q (List.mem_of_mem_take hq)) (by lia) h2
  ·intro hm;have h5:=hH.sublist (List.take_sublist (j+1) H);rw [htake,List.nodup_append] at h5;exact h5.2.2 _ hm _ (qah.mpr rfl) rfl
  ·intro aD g1 g2 g3;rw [←htake] at g2 g3;exact hK _ _ ⟨g2,g3,fun a ha ha'=>(g1 a ha ha').trans (hfr a ha ha'),_,_,_,rfl⟩
 ·intro ad ac zz18;refine ob58 zz18 ?_;clear zz18;intro hs' hR' hfr t4 t5 t6 ee178;subst ee178;rw [qac,List.take_length] at hR';have hF':Frm d aa ac:=fun a o had e=>by
   have has:a≠s:=fun z=>zbB e (frs a had (.inl z));rw [hfr a has (fun z=>zbB e (frs a had (.inr z))),zaf has,zaf had];exact hE _ _ ((zaf had).trans e)
  have hdu:ac d=some (.ns [("size",.int n),("rows",.ref r)]):=by rw [hfr d hsd.symm hdr,zaf hsd.symm,zab]
  refine zkr (d:=d) (r:=r) (rs:=rs) (H:=H) ?_ hdu hxd hR' hdr hrd h2 (fun i=>zeJ (n:=n) hH hT (by lia) h2) ?_
  ·rw [hfr x hsx hxr,zaf hsx,zaf hxd];exact hx2
  ·intro aD r' rs' ad g1 g2 g3 g4 g5 g6;exact hQ aD r' rs' (hF'.trans g1) g2 g3 (hF'.none (zc6 g4 hdu) g4) (fun a ha=>hF'.none (zc6 (g5 a ha) hdu) (g5 a ha)) g6
end
noncomputable def zb5 (H:List (Int×Int)) (i:Nat):List (Int×Int):=((zaw (nb H i)).filter (fun x=>decide ((i:Int)<x))).map (fun x=>((i:Int),x))
noncomputable def zbs (H:List (Int×Int)) (n:Nat):List (Int×Int):=(List.range n).flatMap (zb5 H)
theorem zdT {n:Nat}:zbs H (n+1)=zbs H n++zb5 H n:=by
 simp [zbs,List.range_succ]
theorem zcP (h:T.Pairwise zaK):T.Nodup:=h.imp (by
 intro zz19;obtain ⟨a,b⟩:=zz19;intro zz20;obtain ⟨c,d⟩:=zz20;intro h e;cases e;unfold zaK at h;simp only at h;lia)
theorem zgV (h:l.Nodup):(zaw l).Nodup:=(zaT l).nodup_iff.mpr h
theorem zfT (h:l.Nodup):(zaw l).Pairwise (· < ·):=by
 have h1:=zcj l;have h2:=zgV h;exact (h1.and h2).imp (by rintro a b ⟨x,y⟩;have:a≠b:=y;lia)
theorem zew {i:Nat} (hn:H.Nodup) (ht:∀p∈H,zap n p):(zb5 H i).Pairwise zaK:=by
 unfold zb5;rw [List.pairwise_map];exact ((zfT (zhZ hn ht)).filter _).imp (by intro a b h;exact Or.inr ⟨rfl,h⟩)
theorem mem_tiesRow {i:Nat}:p∈zb5 H i↔p.1=i/\(i:Int)<p.2/\p.2∈nb H i:=by
 unfold zb5;simp only [List.mem_map,List.mem_filter,(zaT _).mem_iff,qaq]
 constructor
 ·intro zz21;refine ob28 zz21 ?_;clear zz21;intro x h1 h2 ee179;subst ee179;exact ⟨rfl,h2,h1⟩
 ·intro zz22;refine ob19 zz22 ?_;clear zz22;intro h1 h2 h3;exact ⟨p.2,⟨h3,h2⟩,by rw [←h1]⟩
variable {m:Nat}
theorem zb4 (hn:H.Nodup) (ht:∀p∈H,zap n p):(zbs H m).Pairwise zaK:=by
 unfold zbs;rw [List.pairwise_flatMap];refine ⟨fun i J=>zew hn ht,?_⟩;refine List.pairwise_lt_range.imp ?_;intro a b hab x hx y hy;have h1:=(mem_tiesRow.mp hx).1;have h2:=(mem_tiesRow.mp hy).1;exact Or.inl (by lia)
theorem zdU (hn:H.Nodup) (ht:∀p∈H,zap n p):(zbs H n.toNat).Perm H:=by
 rw [List.perm_ext_iff_of_nodup (zcP (zb4 hn ht)) hn];intro p;simp only [zbs,List.mem_flatMap,List.mem_range,mem_tiesRow,mem_nb]
 constructor
 ·rintro ⟨i,hi,h1,h2,h3 |h3⟩
  ·rw [←h1] at h3;exact h3
  ·have:=ht _ h3;unfold zap at this;simp only at this;lia
 ·intro h6;have h5:=ht p h6;unfold zap at h5;refine ⟨p.1.toNat,by lia,by lia,by lia,Or.inl ?_⟩
  rw [show ((p.1.toNat:Nat):Int)=p.1 by lia]
  exact h6
theorem zaW {n:Int} {T:List (Int×Int)} (hT:zb0 n T) (hp:T.Perm H):zbs H n.toNat=T:=by
 have hHn:H.Nodup:=hp.nodup_iff.mp (zcP hT.1);have ht:∀p∈H,zap n p:=fun p h=>hT.2 p (hp.mem_iff.mpr h);exact List.Perm.eq_of_pairwise (fun a b J J x y=>by unfold zaK at x y;lia) (zb4 hHn ht) hT.1 ((zdU hHn ht).trans hp.symm)
structure NetAt (aa:Store) (x d r:Addr) (rs:List Addr) (n:Int) (H:List (Int×Int)):Prop where
 top:aa x=some (.inst "Net" d)
 dic:aa d=some (.ns [("size",.int n),("rows",.ref r)])
 rows:Rows aa r rs n.toNat (fun i=>zaw (nb H i))
 lo:1<=n
 hi:n<=40
 nod:H.Nodup
 ok:∀p∈H,zap n p
variable {r:Addr} {rs:List Addr}
theorem Rows.ext {aa:Store} {n:Nat} {f:Nat->List Int} (h:Rows aa r rs n f) (e:Ext aa ac):Rows ac r rs n f:=
 ⟨e _ _ h.top,h.len,h.nod,fun i a ha=>e _ _ (h.row i a ha)⟩
variable {x:Addr}
theorem NetAt.ext {aa:Store} (h:NetAt aa x d r rs n H) (e:Ext aa ac):NetAt ac x d r rs n H:=
 ⟨e _ _ h.top,e _ _ h.dic,h.rows.ext e,h.lo,h.hi,h.nod,h.ok⟩
theorem NetAt.upd {aa:Store} {d:Addr} {n:Int} {H:List (Int×Int)} (h:NetAt aa x d r rs n H) {a:Addr} (ha:aa a=none) {o:AO}:NetAt (aa.upd a o) x d r rs n H:=
 h.ext (Ext.rfl.upd ha)
theorem NetAt.rowAt (h:NetAt aa x d r rs n H) {i:Nat} (hi:(i:Int)<n) :
  ∃a,rs[i]?=some a/\aa a=some (.list ((zaw (nb H i)).map V.int)):=by
 have:i<rs.length:=by rw [h.rows.len];lia
 exact ⟨_,qas this,h.rows.row i _ (qas this)⟩
theorem NetAt.rowLen (h:NetAt aa x d r rs n H) (i:Int):(zaw (nb H i)).length<=40:=by
 rw [(zaT _).length_eq];exact zeJ h.nod h.ok (by have:=h.lo;lia) h.hi
section
variable {k:Nat} {md:Bool} {aa:Store} {Q:V->Store->Prop} {X:XP}
theorem zaV {x d r:Addr} {rs:List Addr} {n:Int} {H:List (Int×Int)} (h:NetAt aa x d r rs n H)
  (hQ:∀b,aa b=none->Q (.ref b) (aa.upd b (.list ((zbs H n.toNat).map pr)))):(sem zae zaj (k+1) true).run "Net" "ties" [.ref x] aa Q X:=by
 refine zag (F:=zdt) rfl ⟨rfl,?_⟩
 delta zdt
 refine ⟨by simp [zao],?_⟩
 intro b hb;have hxb:x≠b:=zaH h.top hb;have hdb:d≠b:=zaH h.dic hb;have hlo:=h.lo;have hhi:=h.hi;refine zaP (h.upd hb).top (h.upd hb).dic fldS rfl ?_;refine ⟨by lia,?_⟩
 refine zaF (fun i ad ac=>(zbs H i).length<=40*i/\ac=aa.upd b (.list ((zbs H i).map pr))/\∃t2 t3,ad=[some (.ref x),some (.ref b),t2,t3])
  ⟨by simp [zbs],by simp [zbs],_,_,rfl⟩ (fun J J J J=>trivial) ?_ ?_
 ·intro i v ad ac K hv zz23;refine ob59 zz23 ?_;clear zz23;intro hl ee180;subst ee180;intro t2 t3 ee181;subst ee181;intro hK;refine ob16 (zbl hv) ?_;intro ee182;subst ee182;intro hxn;rw [Int.zero_add] at hxn ⊢
  delta L_Net_ties_2
  have hN:=h.upd hb (o:=.list ((zbs H i).map pr));refine zaP hN.top hN.dic fldN rfl ?_;refine ob1 (h.rowAt hxn) ?_;intro a ha ha';have hab:a≠b:=zaH ha' hb;have hlen:=h.rowLen i;refine zaG hN.rows.top (by lia) (by rw [qau];simp [ha];rfl) ?_
  simp only [zb6];refine zak ((zaf hab).trans ha') ?_;refine zaF (fun j ad ac=>ac=aa.upd b (.list ((zbs H i++(((zaw (nb H i)).take j).filter (fun x=>decide ((i:Int)<x))).map (fun x=>((i:Int),x))).map pr))/\∃t3,ad=[some (.ref x),some (.ref b),some (.int i),t3])
   ⟨by simp,_,rfl⟩ ?_ ?_ ?_
  ·intro j ad ac zz24;refine ob16 zz24 ?_;clear zz24;intro ee183;subst ee183;intro J;rw [zaf hab];exact ha'
  ·intro j v ad ac K2 hv zz25;refine ob60 zz25 ?_;clear zz25;intro ee184;subst ee184;intro t3 ee185;subst ee185;intro hK2;rw [qau] at hv;refine ob1 (Option.map_eq_some_iff.mp hv) ?_;intro y hy ee186;subst ee186;have hj:j<(zaw (nb H i)).length:=by
    rcases Nat.lt_or_ge j (zaw (nb H i)).length with g |g
    ·exact g
    ·rw [List.getElem?_eq_none g] at hy;cases hy
   rw [qas hj] at hy;cases hy;have htake:=List.take_succ_eq_append_getElem hj
   delta L_Net_ties_1
   refine zaa (a:=decide ((i:Int)<(zaw (nb H i))[j])) rfl ?_
   by_cases hlt:(i:Int)<(zaw (nb H i))[j]
   ·rw [qaf hlt];refine zaI (zak zab ⟨sz2,zaJ zab ?_ (hK2 _ _ ⟨?_,_,rfl⟩)⟩)
    ·have:(((zaw (nb H i)).take j).filter (fun x=>decide ((i:Int)<x))).length<=40:=by
      refine qak (List.length_filter_le _ _) ?_;rw [List.length_take];lia
     simp only [qat,qac];unfold zao
     lia
    ·rw [zbn,htake];simp only [List.filter_append,List.filter_cons,hlt,decide_true,if_true,List.filter_nil,List.map_append,List.map_cons,List.map_nil,List.append_assoc,List.map_map]
     rfl
   ·rw [qai hlt];refine zaq (hK2 _ _ ⟨?_,_,rfl⟩);rw [htake];simp only [List.filter_append,List.filter_cons,hlt,decide_false,Bool.false_eq_true,if_false,List.filter_nil,List.append_nil,List.map_append,List.map_map]
  ·intro ad ac zz26;refine ob60 zz26 ?_;clear zz26;intro ee187;subst ee187;intro t3 ee188;subst ee188;have e:(((zaw (nb H i)).take ((zaw (nb H i)).map V.int).length).filter (fun x=>decide ((i:Int)<x))).map (fun x=>((i:Int),x))=zb5 H i:=by
    rw [qac,List.take_length];rfl
   rw [e,←zdT];refine hK _ _ ⟨?_,rfl,_,_,rfl⟩;rw [zdT,qat];have:(zb5 H i).length<=40:=by
    unfold zb5;rw [qac];exact qak (List.length_filter_le _ _) hlen
   lia
 ·intro ad ac zz27;refine ob59 zz27 ?_;clear zz27;intro hl ee189;subst ee189;intro t2 t3 ee190;subst ee190
  delta T_Net_ties_1
  simp only [qac,za2];exact hQ b hb
theorem zb8 {x d r:Addr} {rs:List Addr} {n:Int} {H:List (Int×Int)} {i:Nat} (h:NetAt aa x d r rs n H) (hi:(i:Int)<n)
  (hQ:∀b,aa b=none->Q (.ref b) (aa.upd b (.list ((zaw (nb H i)).map V.int)))):(sem zae zaj (k+2) true).run "Net" "beside" [.ref x,.int i] aa Q X:=by
 refine zag (F:=zcw) rfl ⟨rfl,?_⟩
 delta zcw zau zbe
 refine zaP h.top h.dic fldS rfl (zaz (Int.natCast_nonneg i) hi (go_b (zaq ?_)))
 delta T_Net_beside_1
 refine zaP h.top h.dic fldN rfl ?_;refine ob1 (h.rowAt hi) ?_;intro a ha ha';have hlen:=h.rowLen i;refine zaG h.rows.top (Int.natCast_nonneg i) (by rw [qau,Int.toNat_natCast,ha];rfl) ?_
 simp only [zkV];refine zak ha' ⟨?_,hQ⟩;rw [qac];unfold zao;lia
end
theorem zgo {chk:Store->Prop} {B:V->Store->(Option V->Store->Prop)->Prop} {items:List V} (f:V->Option V)
  (hc:chk aa) (hl:items.length<=zao) (hB:∀v∈items,∀K:Option V->Store->Prop,K (f v) aa->B v aa K)
  (h:∀a,aa a=none->Q (.ref a) (aa.upd a (.list (items.filterMap f)))):zbR chk B Q items [] aa:=by
 refine zej (fun i acc ac=>i<=items.length/\ac=aa/\acc=(items.take i).filterMap f) ⟨by lia,rfl,by simp⟩ ?_ hl ?_ ?_
 ·intro i acc ac zz28;refine ob19 zz28 ?_;clear zz28;intro hi ee191;subst ee191;intro ee192;subst ee192;refine ⟨hc,qak (List.length_filterMap_le ..) ?_⟩;rw [List.length_take];lia
 ·intro i v acc ac K hv zz29;refine ob19 zz29 ?_;clear zz29;intro hi ee193;subst ee193;intro ee194;subst ee194;intro hK;have hil:i<items.length:=by
   rcases Nat.lt_or_ge i items.length with g |g
   ·exact g
   ·rw [List.getElem?_eq_none g] at hv;cases hv
  rw [qas hil] at hv;cases hv;refine hB _ (List.getElem_mem hil) K (hK _ _ ⟨hil,rfl,?_⟩);rw [List.take_succ_eq_append_getElem hil,List.filterMap_append];cases e:f items[i]<;>simp [e]
 ·intro acc ac zz30;refine ob19 zz30 ?_;clear zz30;intro hi ee195;subst ee195;intro ee196;subst ee196;intro a ha;rw [List.take_length];exact h a ha
theorem zeg {f:V->V->Option Bool} {vs:List V} (h:∀v∈vs,f v v=some true):zbY f vs vs=some true:=by
 induction vs with
 |nil=>rfl
 |cons v vs ih=>
  show (match f v v,zbY f vs vs with |some a,some b=>some (a&&b) |_,_=>none)=_
  rw [h v (qaj ..),ih (fun u hu=>h u (qag _ hu))];rfl
theorem zkC:eqv aa m (.int i) (.int i)=some true:=by
 cases m<;>exact congrArg some (beq_self_eq_true i)
theorem zpl:eqv aa (m+1) (pr p) (pr p)=some true:=
 zeg (f:=eqv aa m) (vs:=[.int p.1,.int p.2]) (by intro v hv;simp at hv;rcases hv with rfl |rfl<;>exact zkC)
variable {a b:Addr}
theorem zic {us:List V} (ha:aa a=some (.list us)) (hb:aa b=some (.list vs)):eqv aa (m+1) (.ref a) (.ref b)=if us.length=vs.length then zbY (eqv aa m) us vs else some false:=by
 show ((asL (aa a)).bind fun us=>(asL (aa b)).bind fun vs=>if us.length=vs.length then zbY (eqv aa m) us vs else some false)=_
 rw [ha,hb];rfl
theorem zie (ha:aa a=some (.list vs)) (hb:aa b=some (.list vs)) (h:∀v∈vs,eqv aa m v v=some true):eqv aa (m+1) (.ref a) (.ref b)=some true:=by
 rw [zic ha hb,if_pos rfl];exact zeg h
theorem zfm {aa:Store} {l:List Int} (ha:aa a=some (.list (l.map V.int))) (hb:aa b=some (.list (l.map V.int))):eqv aa fuel (.ref a) (.ref b)=some true:=
 zie ha hb fun v hv=>by obtain ⟨i,_,rfl⟩:=List.mem_map.mp hv;exact zkC
theorem zfl {l:List (Int×Int)} (ha:aa a=some (.list (l.map pr))) (hb:aa b=some (.list (l.map pr))):eqv aa fuel (.ref a) (.ref b)=some true:=
 zie ha hb fun v hv=>by obtain ⟨i,_,rfl⟩:=List.mem_map.mp hv;exact zpl
theorem zkB {aa:Store} (ha:aa a=some (.list vs)) (hb:aa b=some (.list [])):eqv aa fuel (.ref a) (.ref b)=some vs.isEmpty:=by
 show eqv aa (5+1) _ _=_;rw [zic ha hb];cases vs with
 |nil=>rfl
 |cons v vs=>rw [if_neg (by simp)];rfl
theorem zlw (ha:aa a=some (.list vs)) (_:(0:Int)<=1) (_:(1:Int)<=vs.length) (h:∀b,aa b=none->Q (.ref b) (aa.upd b (.list (vs.drop (1:Int).toNat)))):zhS (.ref a) (.int 1) .none aa Q:=zak ha ⟨⟨rfl,rfl⟩,h⟩
section
variable {k:Nat} {md:Bool} {aa:Store} {Q:V->Store->Prop} {X:XP}
theorem zdW:(zae "Net" "__init__").isSome=true:=rfl
theorem tb_beside:(zae "Net" "beside").isSome=true:=rfl
theorem tb_ties:(zae "Net" "ties").isSome=true:=rfl
theorem ze1:(zae "" "_law_sole").isSome=true:=rfl
theorem zc3:(zae "" "_law_whole").isSome=true:=rfl
theorem zcB {aa ac:Store} {x d:Addr} {o p:AO} (hx:aa x=none) (hd:aa d=none) (h:Frm d ((aa.upd d o).upd x p) ac):Ext aa ac:=by
 intro a q e;have h1:a≠d:=zaH e hd;have h2:a≠x:=zaH e hx;exact h a q h1 ((zaf h2).trans ((zaf h1).trans e))
end
end Mine.Internal
end
end
section
namespace Mine.Internal
open PySem
noncomputable def zaD (n:Nat) (M:Int->Int):List V:=(List.range n).map fun i:Nat=>V.int (M (i:Int))
variable {n:Nat} {M:Int->Int}
theorem zbW:(zaD n M).length=n:=by simp [zaD]
theorem zbX {i:Int} (h0:0<=i) (h:i<n):(zaD n M)[i.toNat]?=some (.int (M i)):=by
 have h1:i.toNat<n:=by lia
 have h2:(i.toNat:Int)=i:=by lia
 simp [zaD,h1,h2]
theorem zcp {j v:Int} (h0:0<=j):(zaD n M).set j.toNat (.int v)=zaD n (fun i=>if i=j then v else M i):=by
 apply List.ext_getElem
 ·simp [zaD]
 ·intro i h1 h2;simp only [zaD,List.length_set,qac,List.length_range] at h1;simp only [List.getElem_set,zaD,List.getElem_map,List.getElem_range]
  by_cases e:j.toNat=i
  ·have:(i:Int)=j:=by lia
   simp [e,this]
  ·have:(i:Int)≠j:=by lia
   simp [e,this]
noncomputable def mt:List (Int×Int)->Int->Int
 | []=>fun J=>-1
 |p::r=>fun i=>if i=p.2 then p.1 else if i=p.1 then p.2 else mt r i
abbrev Touch (p q:Int×Int):Prop:=p.1=q.1\/p.1=q.2\/p.2=q.1\/p.2=q.2
theorem Touch.symm {p q:Int×Int} (h:Touch p q):Touch q p:=by unfold Touch at h ⊢;lia
def Disj (P:List (Int×Int)):Prop:=P.Pairwise fun p q=>¬Touch p q
variable {P:List (Int×Int)}
theorem Disj.rev (h:Disj P):Disj P.reverse:=by
 unfold Disj;rw [List.pairwise_reverse];exact h.imp fun g e=>g e.symm
theorem zlN {n:Int}:∀{R:List (Int×Int)},(∀p∈R,zap n p)->Disj R->∀p∈R,mt R p.1=p.2/\mt R p.2=p.1
 | [],_,_,p,hp=>by cases hp
 |q::r,ht,hd,p,hp=>by
  have hd':=List.pairwise_cons.mp hd
  rcases qad.mp hp with rfl |hp
  ·have:=ht p (qaj ..);unfold zap at this;have h1:¬p.1=p.2:=by lia
   simp [mt,h1]
  ·have h1:=hd'.1 p hp;unfold Touch at h1;have h2:¬p.1=q.2:=by lia
   have h3:¬p.1=q.1:=by lia
   have h4:¬p.2=q.2:=by lia
   have h5:¬p.2=q.1:=by lia
   have ih:=zlN (fun p hp=>ht p (qag _ hp)) hd'.2 p hp;simp [mt,h2,h3,h4,h5,ih]
theorem zh0:∀{R:List (Int×Int)} {i:Int},(∀p∈R,p.1≠i/\p.2≠i)->mt R i = -1
 | [],_,_=>rfl
 |q::r,i,h=>by
  have h1:=h q (qaj ..);have h2:¬i=q.2:=fun e=>h1.2 e.symm;have h3:¬i=q.1:=fun e=>h1.1 e.symm;simp only [mt,h2,h3,if_false];exact zh0 fun p hp=>h p (qag _ hp)
theorem ze9 {n:Int} {R:List (Int×Int)} (ht:∀p∈R,zap n p) (hd:Disj R) (i:Int):(∃p∈R,(p.1=i/\mt R i=p.2)\/(p.2=i/\mt R i=p.1))\/((∀p∈R,p.1≠i/\p.2≠i)/\mt R i = -1):=by
 by_cases h:∃p∈R,p.1=i\/p.2=i
 ·refine ob1 h ?_;clear h;intro p hp h;have h1:=zlN ht hd p hp
  rcases h with rfl |rfl
  ·exact .inl ⟨p,hp,.inl ⟨rfl,h1.1⟩⟩
  ·exact .inl ⟨p,hp,.inr ⟨rfl,h1.2⟩⟩
 ·have h':∀p∈R,p.1≠i/\p.2≠i:=fun p hp=>⟨fun e=>h ⟨p,hp,.inl e⟩,fun e=>h ⟨p,hp,.inr e⟩⟩;exact .inr ⟨h',zh0 h'⟩
theorem zeP {D:List Int}:zbJ (D.map V.int)=true:=by
 have:(D.map V.int).all zc9=true:=List.all_eq_true.mpr fun x hx=>by
  refine ob1 (List.mem_map.mp hx) ?_;intro p J ee197;subst ee197
  rfl
 show (_||_)=true;rw [this,Bool.true_or]
variable {D:List Int}
theorem zeR {p:Int}:zbK (.int p) (D.map V.int)=decide (p∈D):=by
 induction D with
 |nil=>rfl
 |cons q D ih=>
  have:zbK (.int p) ((q::D).map V.int)=(zhd (.int q) (.int p)||zbK (.int p) (D.map V.int)):=rfl;rw [this,ih,zki]
  by_cases e:q=p
  ·subst e;simp
  ·have:¬p=q:=fun h=>e h.symm;simp [e,this]
theorem zeE {p:Int}:zaY (.int p) (D.map V.int)=(if p∈D then D else D++[p]).map V.int:=by
 unfold zaY;rw [zeR]
 by_cases e:p∈D<;>simp [e]
variable {aa:Store} {x:Int} {l:List Int}
theorem zj9:memV aa (.int x) (l.map V.int)=some (decide (x∈l)):=by
 induction l with
 |nil=>rfl
 |cons y l ih=>
  have:memV aa (.int x) ((y::l).map V.int)=(match eqv aa fuel (.int y) (.int x),memV aa (.int x) (l.map V.int) with |some a,some b=>some (a||b) |_,_=>none):=rfl
  rw [this,ih];have h:eqv aa fuel (.int y) (.int x)=some (y==x):=rfl;rw [h]
  by_cases e:y=x
  ·subst e;simp
  ·have:¬x=y:=fun h=>e h.symm;simp [e,this]
theorem zbN {a:Addr} (h:aa a=some (.dict (D.map V.int))):inV aa (.int x) (.ref a)=some (decide (x∈D)):=by
 have hk:zbJ (V.int x::D.map V.int)=true:=zeP (D:=x::D);simp only [inV,h,hk,if_true,zeR]
theorem zhj {a:Addr} (h:aa a=some (.list (l.map V.int))):inV aa (.int x) (.ref a)=some (decide (x∈l)):=by
 simp only [inV,h,zj9]
theorem za3 {Q:Store->Prop} {a:Addr} {D:List Int} {p:Int} (h:aa a=some (.dict (D.map V.int))) (hl:D.length<zao) (q:Q (aa.upd a (.dict ((if p∈D then D else D++[p]).map V.int)))):za4 (.ref a) (.int p) (.bool true) aa Q:=by
 have hk:zbJ (V.int p::D.map V.int)=true:=zeP (D:=p::D);simp only [za4,h];refine ⟨⟨hk,by rw [qac];exact hl,trivial⟩,?_⟩
 rw [zeE];exact q
section
variable {k:Nat} {aa:Store} {Q:V->Store->Prop} {X:XP}
theorem zhL:(zae "" "mates").isSome=true:=rfl
theorem zm8:(zae "" "told").isSome=true:=rfl
variable {T:List (Int×Int)} {n:Int}
theorem znw {p:Int×Int} (ht:∀p∈T,zap n p) (hp:zap n p):p.2∈zaw (nb T p.1)↔p∈T:=by
 rw [(zaT _).mem_iff,mem_nb]
 constructor
 ·rintro (h |h)
  ·exact h
  ·have:=ht _ h;unfold zap at this hp;simp only at this;lia
 ·exact Or.inl
theorem zi1 {x d r l f:Addr} {rs:List Addr} {p:Int×Int} {t4:Option V} {R Y} {N:Loc->Store->Prop} {M:Int->Int}
  (h:NetAt aa x d r rs n T) (hf:aa f=some (.list (zaD n.toNat M))) (hp:zap n p) (hpT:p∈T) (g1:¬0<=M p.1) (g2:¬0<=M p.2)
  (hgo:N [some (.ref x),some (.ref l),some (.ref f),some (pr p),t4] (aa.upd f (.list (zaD n.toNat fun i=>if i=p.2 then p.1 else if i=p.1 then p.2 else M i)))) :
  wpSs (sem zae zaj (k+2)) true L_mates_1 [some (.ref x),some (.ref l),some (.ref f),some (pr p),t4] aa N R Y:=by
 have hp':=hp;unfold zap at hp';have h0:=hp'.1;have h1:p.1<n.toNat:=by lia
 have h2:0<=p.2:=by lia
 have h3:p.2<n.toNat:=by lia
 delta L_mates_1 zau zfM
 refine zaP h.top h.dic fldS rfl (zeb hp (go_b (za0 ?_)));refine zbO (zaP h.top h.dic fldN rfl (zbP ?_));refine ob1 (h.rowAt (i:=p.1.toNat) (by lia)) ?_
 intro a ha ha';rw [Int.toNat_of_nonneg h0] at ha';refine zaG h.rows.top h0 (by rw [qau,ha];rfl) ?_
 refine zaa (a:=false) (by rw [zaN,zhj ha',qaf ((znw h.ok hp).mpr hpT)];rfl) (zaq ?_)
 delta T_mates_1
 refine zbP (zaG hf h0 (zbX h0 h1) (zaa (congrArg some (qai g1)) (za0 ?_)));refine zbO (zaG hf h2 (zbX h2 h3) (zaa (congrArg some (qai g2)) (zaq ?_)));refine zbO (zbP (zby hf h0 (by rw [zbW];exact h1) ?_))
 rw [zcp h0];refine zbP (zbO (zby zab h2 (by rw [zbW];exact h3) ?_))
 rw [zcp h2,zbn];exact hgo
variable {P:List (Int×Int)}
theorem zeM {x d r l:Addr} {rs:List Addr} (h:NetAt aa x d r rs n T) (hl:aa l=some (.list (P.map pr))) (hs:∀p∈P,p∈T) (hd:Disj P)
  (hQ:∀f,aa f=none->Q (.ref f) (aa.upd f (.list (zaD n.toNat (mt P.reverse))))) :
  (sem zae zaj (k+3) true).run "" "mates" [.ref x,.ref l] aa Q X:=by
 have hlo:=h.lo;have hhi:=h.hi;refine zag (F:=zhy) rfl ⟨rfl,?_⟩
 delta zhy
 refine zaa (isl hl) (go_b (zaq ?_));refine zaP h.top h.dic fldS rfl ?_;refine ⟨by lia,?_⟩
 refine zgo (fun J=>some (.int (-1))) trivial (by rw [qac,za2];unfold zao;lia) (fun v hv K hK=>hK) ?_
 intro f hf;have e0:((upto 0 n 1).map V.int).filterMap (fun J=>some (V.int (-1)))=zaD n.toNat (mt []):=by
  apply List.ext_getElem?
  intro i;simp only [List.filterMap_eq_map',qau,zaD,mt]
  by_cases hi:i<n.toNat
  ·have h1:(0:Int)+i<n:=by lia
   rw [zgO h1];simp [hi]
  ·have h1:(upto 0 n 1).length<=i:=by rw [za2];lia
   rw [List.getElem?_eq_none h1];simp [hi]
 rw [e0];have hlf:l≠f:=zaH hl hf
 delta T_mates_3 zb6
 refine zak ((zaf hlf).trans hl) ?_;refine zaF (fun j ad ac=>ac=aa.upd f (.list (zaD n.toNat (mt (P.take j).reverse)))/\∃t3,ad=[some (.ref x),some (.ref l),some (.ref f),t3,none])
  ⟨by simp,_,rfl⟩ ?_ ?_ ?_
 ·intro j ad ac zz31;refine ob16 zz31 ?_;clear zz31;intro ee198;subst ee198;intro J;rw [zaf hlf];exact hl
 ·intro j v ad ac K hv zz32;refine ob60 zz32 ?_;clear zz32;intro ee199;subst ee199;intro t3 ee200;subst ee200;intro hK;have hN:=h.ext ((Ext.rfl (aa:=aa)).upd (o:=.list (zaD n.toNat (mt (P.take j).reverse))) hf);simp only [List.set_cons_succ,List.set_cons_zero];refine ob14 (zh8 hv) ?_;intro hjl ee201;subst ee201;have htake:=List.take_succ_eq_append_getElem hjl;have hpP:=hs _ (List.getElem_mem hjl);have hfree:∀q∈(P.take j).reverse,¬Touch q P[j]:=by
   intro q hq;have h1:Disj (P.take (j+1)):=hd.sublist (List.take_sublist _ P);rw [htake] at h1;exact (List.pairwise_append.mp h1).2.2 q (List.mem_reverse.mp hq) _ (qah.mpr rfl)
  refine zi1 hN zab (h.ok _ hpP) hpP ?_ ?_ (hK _ _ ⟨?_,_,rfl⟩)
  ·rw [zh0 fun q hq=>by have:=hfree q hq;unfold Touch at this;lia];decide
  ·rw [zh0 fun q hq=>by have:=hfree q hq;unfold Touch at this;lia];decide
  ·rw [zbn,htake,List.reverse_append];rfl
 ·intro ad ac zz33;refine ob60 zz33 ?_;clear zz33;intro ee202;subst ee202;intro t3 ee203;subst ee203;rw [qac,List.take_length]
  delta T_mates_2
  exact hQ f hf
theorem zdm {chk:Store->Prop} {B:V->Store->(Option V->Store->Prop)->Prop} (g:Int->Option V) (hc:chk aa) (hn:n<=1000) (hB:∀i:Int,0<=i->i<n->∀K:Option V->Store->Prop,K (g i) aa->B (.int i) aa K)
  (h:∀a,aa a=none->Q (.ref a) (aa.upd a (.list ((List.range n.toNat).filterMap fun i:Nat=>g i)))):zbR chk B Q ((upto 0 n 1).map V.int) [] aa:=by
 refine zgo (fun v=>match v with |.int i=>g i |_=>none) hc (by rw [qac,za2];unfold zao;lia) ?_ ?_
 ·intro v hv K hK;refine ob1 (List.mem_map.mp hv) ?_;intro i hi ee204;subst ee204;refine ob14 (List.mem_iff_getElem?.mp hi) ?_;intro j hj;have hi0:=upto_get' hj;exact hB i (by lia) (by lia) K hK
 ·intro a ha;have e:((upto 0 n 1).map V.int).filterMap (fun v=>match v with |.int i=>g i |_=>none)=(List.range n.toNat).filterMap fun i:Nat=>g i:=by
   have:upto 0 n 1=(List.range n.toNat).map fun i:Nat=>(i:Int):=by
    unfold upto;simp
   rw [this,List.map_map,List.filterMap_map]
   rfl
  rw [e];exact h a ha
noncomputable def zbo (n:Nat) (M:Int->Int):List (Int×Int):=(List.range n).filterMap fun i:Nat=>if (i:Int)<M i then some ((i:Int),M i) else none
theorem zjB {n:Nat} {M:Int->Int}:(zbo n M).length<=n:=by
 refine qak (List.length_filterMap_le ..) ?_;rw [List.length_range];exact qal _
theorem zjz {m:Addr} {n:Nat} {M:Int->Int} (hm:aa m=some (.list (zaD n M))) (hn:n<=1000) (hQ:∀b,aa b=none->Q (.ref b) (aa.upd b (.list ((zbo n M).map pr)))):(sem zae zaj (k+1) true).run "" "told" [.ref m] aa Q X:=by
 refine zag (F:=zk5) rfl ⟨rfl,?_⟩
 delta zk5
 simp only [zcQ hm,zbW];refine ⟨by lia,?_⟩
 refine zdm (fun i=>if i<M i then some (pr (i,M i)) else none) trivial (by lia) ?_ ?_
 ·intro i h0 h1 K hK;refine zaG hm h0 (zbX h0 h1) ?_;simp only [zkN,zas,zcK]
  by_cases g:i<M i
  ·rw [if_pos g] at hK;simp only [g,decide_true,if_true];exact zaG hm h0 (zbX h0 h1) ⟨by decide,hK⟩
  ·rw [if_neg g] at hK;simp only [g,decide_false,Bool.false_eq_true,if_false];exact hK
 ·intro a ha;have e:((List.range (n:Int).toNat).filterMap fun i:Nat=>if (i:Int)<M i then some (pr ((i:Int),M i)) else none)=(zbo n M).map pr:=by
   unfold zbo;rw [List.map_filterMap,show ((n:Int)).toNat=n by lia]
   congr 1
   funext i
   split<;>rfl
  rw [e];exact hQ a ha
noncomputable def places (P:List (Int×Int)):List Int:=P.map (·.1)++P.map (·.2)
theorem mem_places {i:Int}:i∈places P↔∃p∈P,p.1=i\/p.2=i:=by
 unfold places;simp only [qao,List.mem_map]
 constructor
 ·rintro (⟨p,hp,e⟩ |⟨p,hp,e⟩)
  ·exact ⟨p,hp,.inl e⟩
  ·exact ⟨p,hp,.inr e⟩
 ·rintro ⟨p,hp,e |e⟩
  ·exact .inl ⟨p,hp,e⟩
  ·exact .inr ⟨p,hp,e⟩
theorem zf4 (ht:∀p∈P,zap n p) (hd:Disj P) (i:Int):mt P.reverse i<0↔i∉places P:=by
 rw [mem_places]
 rcases ze9 (fun p hp=>ht p (List.mem_reverse.mp hp)) hd.rev i with ⟨p,hp,h⟩ |⟨h,e⟩
 ·have hp:=List.mem_reverse.mp hp;have ho:=ht p hp;unfold zap at ho
  constructor
  ·intro g;lia
  ·intro g;exact absurd ⟨p,hp,by lia⟩ g
 ·constructor
  ·intro J z;refine ob1 z ?_;clear z;intro p hp g;have:=h p (List.mem_reverse.mpr hp)
   lia
  ·intro J;lia
theorem zbd {n:Nat} {M:Int->Int}:(zbo n M).Pairwise zaK:=by
 unfold zbo;refine List.Pairwise.filterMap _ ?_ (List.pairwise_lt_range (n:=n));intro i j hij p hp q hq
 split at hp
 ·cases hp
  split at hq
  ·cases hq;exact .inl (by simp only;lia)
  ·cases hq
 ·cases hp
set_option tactic.hygienic true in
theorem zlP (ht:∀p∈P,zap n p) (hd:Disj P) (q:Int×Int):q∈zbo n.toNat (mt P.reverse)↔q∈P:=by
 have ht':∀p∈P.reverse,zap n p:=fun p hp=>ht p (List.mem_reverse.mp hp);unfold zbo;simp only [List.mem_filterMap,List.mem_range]
 constructor
 ·intro zz34;refine ob1 zz34 ?_;clear zz34;intro i hi h
  split at h
  ·cases h;rename_i g
   rcases ze9 ht' hd.rev i with ⟨p,hp,⟨e1,e2⟩ |⟨e1,e2⟩⟩ |⟨_,e⟩
   ·rw [e2,←e1];exact List.mem_reverse.mp hp
   ·have:=ht' p hp;unfold zap at this;lia
   ·lia
  ·cases h
 ·intro hq;have ho:=ht q hq;unfold zap at ho;have h1:=(zlN ht' hd.rev q (List.mem_reverse.mpr hq)).1;have e:((q.1.toNat:Nat):Int)=q.1:=by lia
  refine ⟨q.1.toNat,by lia,?_⟩
  rw [e,h1,if_pos ho.2.1]
theorem zcC (hd:Disj P):P.Nodup:=hd.imp fun {a b} h e=>h (by subst e;exact .inl rfl)
theorem zfL {n:Int} (ht:∀p∈P,zap n p) (hd:Disj P):(zbo n.toNat (mt P.reverse)).Perm P:=by
 rw [List.perm_ext_iff_of_nodup (zcP zbd) (zcC hd)];exact zlP ht hd
theorem zjA {qs:List (Int×Int)} (ht:∀p∈P,zap n p) (hd:Disj P) (hp:qs.Perm P) (hs:qs.Pairwise zaK):qs=zbo n.toNat (mt P.reverse):=
 List.Perm.eq_of_pairwise (fun a b J J x y=>by unfold zaK at x y;lia) hs zbd (hp.trans (zfL ht hd).symm)
theorem zcD (ht:∀p∈P,zap n p) (hd:Disj P) (h0:0<=n) (hn:n<=40):P.length<=40:=by
 rw [←(zfL ht hd).length_eq];have:=zjB (n:=n.toNat) (M:=mt P.reverse)
 lia
theorem zlt {md:Bool} {l:Addr} (hl:aa l=some (.list (P.map pr))) (ht:∀p∈P,zap n p) (hd:Disj P) (h0:0<=n) (hn:n<=40)
  (hQ:∀b,aa b=none->Q (.ref b) (aa.upd b (.list ((zbo n.toNat (mt P.reverse)).map pr)))):b1V md .sorted (.ref l) aa Q:=by
 simp only [zgA];have:=zcD ht hd h0 hn;refine .inr (zak hl ⟨P,⟨rfl,zcC hd,by lia⟩,fun qs hp hs=>?_⟩)
 rw [zjA ht hd hp hs];exact hQ
end
noncomputable def tie (a b:Int):Int×Int:=(min a b,max a b)
theorem zmH {n a b:Int} (ha:0<=a/\a<n) (hb:0<=b/\b<n) (h:a≠b):zap n (tie a b):=by
 unfold zap tie;simp only;lia
noncomputable def steps:List Int->List (Int×Int)
 |a::b::r=>(a,b)::steps r
 |_=>[]
theorem zd4:∀(W:List Int) (a b:Int),(a,b)∈steps W↔∃j,W[2*j]?=some a/\W[2*j+1]?=some b
 | [],a,b=>by simp [steps]
 | [x],a,b=>by
  simp only [steps,qam,false_iff];intro zz35;refine ob1 zz35 ?_;clear zz35;intro j h1 h2;rw [List.getElem?_eq_none (by simp)] at h2;cases h2
 |x::y::r,a,b=>by
  rw [steps,qad,zd4 r a b]
  constructor
  ·rintro (h |⟨j,h1,h2⟩)
   ·cases h;exact ⟨0,rfl,rfl⟩
   ·exact ⟨j+1,by rw [show 2*(j+1)=2*j+1+1 by lia];simpa using h1,by rw [show 2*(j+1)+1=(2*j+1)+1+1 by lia];simpa using h2⟩
  ·intro zz36;refine ob1 zz36 ?_;clear zz36;intro j h1 h2;cases j with
   |zero=>left;simp at h1 h2;rw [h1,h2]
   |succ j=>
    right
    refine ⟨j,?_,?_⟩
    ·rw [show 2*(j+1)=2*j+1+1 by lia] at h1;simpa using h1
    ·rw [show 2*(j+1)+1=(2*j+1)+1+1 by lia] at h2;simpa using h2
theorem zfP:∀(W:List Int) (j:Nat) (a b:Int),W[2*j]?=some a->W[2*j+1]?=some b->(steps W)[j]?=some (a,b)
 | [],j,a,b,h1,h2=>by simp at h1
 | [x],j,a,b,h1,h2=>by rw [List.getElem?_eq_none (by simp)] at h2;cases h2
 |x::y::r,0,a,b,h1,h2=>by simp at h1 h2;rw [steps,h1,h2];rfl
 |x::y::r,j+1,a,b,h1,h2=>by
  rw [steps,List.getElem?_cons_succ];refine zfP r j a b ?_ ?_
  ·rw [show 2*(j+1)=2*j+1+1 by lia] at h1;simpa using h1
  ·rw [show 2*(j+1)+1=(2*j+1)+1+1 by lia] at h2;simpa using h2
theorem zdX:∀(W:List Int),(steps W).length=W.length/2
 | []=>rfl
 | [x]=>by simp [steps]
 |x::y::r=>by rw [steps,List.length_cons,zdX r];simp;lia
theorem zhP {W:List Int} {p:Int×Int} (h:p∈steps W):p.1∈W/\p.2∈W:=by
 refine ob1 ((zd4 W p.1 p.2).mp h) ?_;intro j h1 h2;exact ⟨qav h1,qav h2⟩
theorem zdY:∀{W:List Int},W.length%2=0->∀i∈W,∃p∈steps W,p.1=i\/p.2=i
 | [],_,i,h=>by cases h
 | [x],e,i,h=>by simp at e
 |x::y::r,e,i,h=>by
  rw [steps]
  rcases qad.mp h with rfl |h
  ·exact ⟨_,qaj ..,.inl rfl⟩
  rcases qad.mp h with rfl |h
  ·exact ⟨_,qaj ..,.inr rfl⟩
  obtain ⟨p,hp,g⟩:=zdY (W:=r) (by simp at e;lia) i h
  exact ⟨p,qag _ hp,g⟩
theorem zeC:∀{W:List Int},W.Nodup->Disj (steps W)/\∀p∈steps W,p.1≠p.2
 | [],_=>⟨.nil,by simp [steps]⟩
 | [x],_=>⟨.nil,by simp [steps]⟩
 |x::y::r,h=>by
  have h1:=qar.mp h;have h2:=qar.mp h1.2;have ih:=zeC h2.2;rw [steps];refine ⟨List.pairwise_cons.mpr ⟨?_,ih.1⟩,?_⟩
  ·intro p hp t;have hp:=zhP hp;unfold Touch at t;simp only at t
   rcases t with e |e |e |e
   ·exact h1.1 (qag _ (e▸hp.1))
   ·exact h1.1 (qag _ (e▸hp.2))
   ·exact h2.1 (e▸hp.1)
   ·exact h2.1 (e▸hp.2)
  ·intro p hp
   rcases qad.mp hp with rfl |hp
   ·intro e;exact h1.1 (qad.mpr (.inl e))
   ·exact ih.2 p hp
noncomputable def mtB (M:Int->Int):List (Int×Int)->Int->Int
 | []=>M
 |p::r=>fun i=>if i=p.2 then p.1 else if i=p.1 then p.2 else mtB M r i
theorem zmM {M:Int->Int}:∀{R:List (Int×Int)},(∀p∈R,p.1≠p.2)->Disj R->∀p∈R,mtB M R p.1=p.2/\mtB M R p.2=p.1
 | [],_,_,p,hp=>by cases hp
 |q::r,ht,hd,p,hp=>by
  have hd':=List.pairwise_cons.mp hd
  rcases qad.mp hp with rfl |hp
  ·have h1:=ht p (qaj ..);simp [mtB,h1]
  ·have h1:=hd'.1 p hp;unfold Touch at h1;have h2:¬p.1=q.2:=by lia
   have h3:¬p.1=q.1:=by lia
   have h4:¬p.2=q.2:=by lia
   have h5:¬p.2=q.1:=by lia
   have ih:=zmM (M:=M) (fun p hp=>ht p (qag _ hp)) hd'.2 p hp;simp [mtB,h2,h3,h4,h5,ih]
theorem zj6 {M:Int->Int}:∀{R:List (Int×Int)} {i:Int},(∀p∈R,p.1≠i/\p.2≠i)->mtB M R i=M i
 | [],_,_=>rfl
 |q::r,i,h=>by
  have h1:=h q (qaj ..);have h2:¬i=q.2:=fun e=>h1.2 e.symm;have h3:¬i=q.1:=fun e=>h1.1 e.symm;simp only [mtB,h2,h3,if_false];exact zj6 fun p hp=>h p (qag _ hp)
structure WayOk (n:Int) (T:List (Int×Int)) (M:Int->Int) (W:List Int):Prop where
 two:2<=W.length
 even:W.length%2=0
 inn:∀p∈W,0<=p/\p<n
 nod:W.Nodup
 fst:∀a,W[0]?=some a->M a<0
 lst:∀a,W[W.length-1]?=some a->M a<0
 stp:∀(k:Nat) a b,W[k]?=some a->W[k+1]?=some b->b∈nb T a/\(M a=b↔k%2=1)
structure Along (n:Int) (T P:List (Int×Int)) (W:List Int):Prop where
 ok:∀p∈P,zap n p
 dis:Disj P
 odd:∀p∈steps (W.drop 1),tie p.1 p.2∈P
 oth:∀p∈P,(∃q∈steps (W.drop 1),p=tie q.1 q.2)\/(p.1∉W/\p.2∉W)
 all:∀(k:Nat) a b,W[k]?=some a->W[k+1]?=some b->tie a b∈T
theorem zpc {α:Type} {W:List α} {i:Nat} {a:α} (hi:W[i]?=some a):i<W.length:=by
 rcases Nat.lt_or_ge i W.length with g |g
 ·exact g
 ·rw [List.getElem?_eq_none g] at hi;cases hi
section
variable {k:Nat} {aa:Store} {Q:V->Store->Prop} {X:XP}
theorem zjF:(zae "" "is_way").isSome=true:=rfl
theorem zjC:(zae "" "turned").isSome=true:=rfl
theorem zfj {a:Addr} {vs:List V} {i:Int} {v:V} {K:V->Prop} (ha:aa a=some (.list vs)) (hi:i<0) (hl:-i<=vs.length) (hv:vs[vs.length-i.natAbs]?=some v) (h:K v):idxV (.ref a) (.int i) aa K:=by
 have e:ziT i vs.length=some (vs.length-i.natAbs):=by
  refine (if_neg (by lia)).trans ((if_pos (by lia)).trans (congrArg some ?_))
  lia
 exact Eq.mpr (zg2 ha) (zaa e (zaa hv h))
variable {W:List Int}
theorem zbQ {a:Addr} {i:Int} {v:Int} {K:V->Prop} (ha:aa a=some (.list (W.map V.int))) (hi:0<=i) (hv:W[i.toNat]?=some v) (h:K (.int v)):idxV (.ref a) (.int i) aa K:=
 zaG ha hi (by rw [qau,hv];rfl) h
theorem zl3 {x d r m w g:Addr} {rs:List Addr} {n:Int} {T:List (Int×Int)} {M:Int->Int} {t4:Option V} {N Y} (h:NetAt aa x d r rs n T) (hm:aa m=some (.list (zaD n.toNat M))) (hw:aa w=some (.list (W.map V.int)))
  (ok:WayOk n T M W) (hlen:W.length<=1000) (hT:Q (.bool true) aa) :
  wpSs (sem zae zaj k) true T_is_way_3 [some (.ref x),some (.ref m),some (.ref w),some (.ref g),t4,none] aa N Q Y:=by
 have gm:∀{i:Int},i∈W->∀{K:V->Prop},K (.int (M i))->idxV (.ref m) (.int i) aa K:=fun hi K hK=>zaG hm (ok.inn _ hi).1 (zbX (ok.inn _ hi).1 (by have:=(ok.inn _ hi).2;lia)) hK
 have h2:=ok.two;have hfst:W[0]?=some W[0]:=qas (by lia)
 have hlst:W[W.length-1]?=some W[W.length-1]:=qas (by lia)
 delta T_is_way_3
 refine zbQ hw (Int.le_refl 0) hfst (gm (List.getElem_mem _) (zaa (congrArg some (qai (Int.not_le.mpr (ok.fst _ hfst)))) (za0 ?_)));refine zfj (i:=-1) hw (by decide) (by rw [qac];lia) (by rw [qac,qau];show Option.map V.int W[W.length-1]?=_;rw [hlst];rfl) (gm (List.getElem_mem _) (zaa (congrArg some (qai (Int.not_le.mpr (ok.lst _ hlst)))) (zaq ?_)))
 simp only [zcQ hw,qac,zdO,zdI];refine ⟨by lia,?_⟩
 refine zaF (fun j ad ac=>ac=aa/\∃t5,ad=[some (.ref x),some (.ref m),some (.ref w),some (.ref g),t4,t5])
  ⟨rfl,_,rfl⟩ (fun J J J J=>trivial) ?_ ?_
 ·intro j v ad ac K hv zz37;refine ob60 zz37 ?_;clear zz37;intro ee205;subst ee205;intro t5 ee206;subst ee206;intro hK;refine ob16 (zbl hv) ?_;intro ee207;subst ee207;intro hj;rw [Int.zero_add] at hj ⊢;have j0:j<W.length:=by lia
  have j1:j+1<W.length:=by lia
  have ha:W[j]?=some W[j]:=qas j0;have hb:W[j+1]?=some W[j+1]:=qas j1;have haW:=List.getElem_mem j0;refine ob16 (ok.stp j _ _ ha hb) ?_;intro c1 c2;generalize W[j]=a at *;generalize W[j+1]=b at *
  delta L_is_way_2
  simp only [zb7];refine zbQ hw (by lia) hb (zaP h.top h.dic fldN rfl (zbQ hw (by lia) ha ?_))
  have haa:=ok.inn a haW;refine ob1 (h.rowAt (i:=a.toNat) (by lia)) ?_
  intro c hc hc';rw [Int.toNat_of_nonneg haa.1] at hc';refine zaG h.rows.top haa.1 (by rw [qau,hc];rfl) ?_
  refine zaa (a:=false) (by rw [zaN,zhj hc',qaf ((zaT _).mem_iff.mpr c1)];rfl) (zaq ?_)
  refine zbQ hw (by lia) ha (gm haW (zbQ hw (by lia) hb ⟨by decide,zaa (a:=((j:Int).fmod 2==1)) rfl (zaa (a:=false) ?_ (zaq (hK _ _ ⟨rfl,_,rfl⟩)))⟩))
  have e2:(j:Int).fmod 2=((j%2:Nat):Int):=by rw [Int.fmod_eq_emod_of_nonneg _ (by decide)];lia
  have:((M a==b)==((j:Int).fmod 2==1))=true:=by
   rw [beq_iff_eq,Bool.eq_iff_iff,beq_iff_eq,beq_iff_eq,e2];exact c2.trans (by lia)
  show some (!((M a==b)==((j:Int).fmod 2==1)))=_;rw [this];rfl
 ·intro ad ac zz38;refine ob60 zz38 ?_;clear zz38;intro ee208;subst ee208;intro t5 ee209;subst ee209;exact hT
theorem zhe {x d r m w:Addr} {rs:List Addr} {n:Int} {T:List (Int×Int)} {M:Int->Int} (h:NetAt aa x d r rs n T) (hm:aa m=some (.list (zaD n.toNat M))) (hw:aa w=some (.list (W.map V.int)))
  (ok:WayOk n T M W) (hlen:W.length<=1000) (hT:∀ac,Ext aa ac->Q (.bool true) ac) :
  (sem zae zaj (k+2) true).run "" "is_way" [.ref x,.ref m,.ref w] aa Q X:=by
 refine zag (F:=zfD) rfl ⟨rfl,?_⟩;have h2:=ok.two;have he:=ok.even
 delta zfD
 simp only [zcQ hw,qac,zmp];refine zaa (isl hw) (go_b (za0 ?_));refine zaa (congrArg some (qai (p:=(W.length:Int)<2) (by lia))) (za0 ⟨by decide,zaa (a:=false) ?_ (zaq ?_)⟩)
 ·refine congrArg some (beq_eq_false_iff_ne.mpr ?_);rw [Int.fmod_eq_emod_of_nonneg _ (by decide)];lia
 intro g hg;have hwg:w≠g:=zaH hw hg;simp only [zb6];refine zak ((zaf hwg).trans hw) ?_;refine zaF (fun j ad ac=>ac=aa.upd g (.dict ((W.take j).map V.int))/\∃t4,ad=[some (.ref x),some (.ref m),some (.ref w),some (.ref g),t4,none])
  ⟨rfl,_,rfl⟩ ?_ ?_ ?_
 ·intro j ad ac zz39;refine ob16 zz39 ?_;clear zz39;intro ee210;subst ee210;intro J;rw [zaf hwg];exact hw
 ·intro j v ad ac K hv zz40;refine ob60 zz40 ?_;clear zz40;intro ee211;subst ee211;intro t4 ee212;subst ee212;intro hK;have hN:=h.ext ((Ext.rfl (aa:=aa)).upd (o:=.dict ((W.take j).map V.int)) hg)
  delta L_is_way_1 zau zbe
  refine zaP hN.top hN.dic fldS rfl ?_;rw [qau] at hv;refine ob1 (Option.map_eq_some_iff.mp hv) ?_;intro y hy ee213;subst ee213;refine ob14 (List.getElem?_eq_some_iff.mp hy) ?_;intro hjl ee214;subst ee214;have htake:=List.take_succ_eq_append_getElem hjl;have c1:=ok.inn _ (List.getElem_mem hjl);have c2:W[j]∉W.take j:=fun z=>by
   have:=ok.nod.sublist (List.take_sublist (j+1) W);rw [htake,List.nodup_append] at this;exact this.2.2 _ z _ (qah.mpr rfl) rfl
  refine zaz c1.1 c1.2 (go_b (za0 (zaa (a:=false) (by rw [zcV,zbN zab,qai c2]) (zaq ?_))))
  delta T_is_way_1
  refine za3 zab (by rw [List.length_take];unfold zao;lia) ?_
  rw [if_neg c2,zbn,←htake];exact hK _ _ ⟨rfl,_,rfl⟩
 ·intro ad ac zz41;refine ob60 zz41 ?_;clear zz41;intro ee215;subst ee215;intro t4 ee216;subst ee216;rw [qac,List.take_length];have hE:=(Ext.rfl (aa:=aa)).upd (o:=.dict (W.map V.int)) hg;exact zl3 (h.ext hE) (hE _ _ hm) (hE _ _ hw) ok hlen (hT _ hE)
end
section
variable {k:Nat} {aa:Store} {Q:V->Store->Prop} {X:XP}
theorem zpD (s:Nat):upto 0 (2*(s:Int)) 2=(List.range s).map fun j:Nat=>2*(j:Int):=by
 have e:((2*(s:Int)-0+2-1)/2).toNat=s:=by lia
 unfold upto;rw [if_pos (by lia),e]
 congr 1
 funext j
 lia
theorem zgS {x d r l w:Addr} {rs:List Addr} {n:Int} {T P:List (Int×Int)} {W:List Int} (h:NetAt aa x d r rs n T) (hl:aa l=some (.list (P.map pr))) (hs:∀p∈P,p∈T) (hd:Disj P) (hw:aa w=some (.list (W.map V.int)))
  (hlen:W.length<=1000) (ok:WayOk n T (mt P.reverse) W)
  (hyes:∀ac b,Ext aa ac->aa b=none->ac b=some (.list ((zbo n.toNat (mtB (mt P.reverse) (steps W).reverse)).map pr))->Q (.ref b) ac) :
  (sem zae zaj (k+4) true).run "" "turned" [.ref x,.ref l,.ref w] aa Q X:=by
 have hlo:=h.lo;have hhi:=h.hi;refine zag (F:=zfC) rfl ⟨rfl,?_⟩
 delta zfC zau zhL
 refine zeM h hl hs hd fun f hf=>?_;have hE:=(Ext.rfl (aa:=aa)).upd (o:=.list (zaD n.toNat (mt P.reverse))) hf;have hf1:(aa.upd f (.list (zaD n.toNat (mt P.reverse)))) f=some (.list (zaD n.toNat (mt P.reverse))):=zab;generalize aa.upd f (.list (zaD n.toNat (mt P.reverse)))=am at *
 delta T_turned_3 zau zjF
 refine zhe (h.ext hE) hf1 (hE _ _ hw) ok hlen fun au hE2=>go_b (zaq ?_);have hE':=hE.trans hE2;have hw2:=hE' _ _ hw;have hwf:w≠f:=zaH hw hf;have ev:=ok.even
 delta T_turned_2
 simp only [zcQ hw2,qac];refine ⟨by lia,?_⟩
 have hlw:((W.length:Nat):Int)=2*((W.length/2:Nat):Int):=by lia
 rw [hlw,zpD,List.map_map];refine zaF (fun j ad ac=>Ext aa ac/\ac f=some (.list (zaD n.toNat (mtB (mt P.reverse) ((steps W).take j).reverse)))/\∃t4,ad=[some (.ref x),some (.ref l),some (.ref w),some (.ref f),t4])
  ⟨hE',by simp [mtB];exact hE2 _ _ hf1,_,rfl⟩ (fun J J J J=>trivial) ?_ ?_
 ·intro j v ad ac K hv zz42;refine ob61 zz42 ?_;clear zz42;intro g1 g2 t4 ee217;subst ee217;intro hK;have hj:j<W.length/2:=by have:=zpc hv;simpa using this
  have hv':v=.int (2*(j:Int)):=by
   rw [qau,List.getElem?_range hj] at hv;cases hv;rfl
  subst hv';have l0:2*j<W.length:=by lia
  have l1:2*j+1<W.length:=by lia
  have ha:W[2*j]?=some W[2*j]:=qas l0;have hb':W[2*j+1]?=some W[2*j+1]:=qas l1;have hst:=zfP W j _ _ ha hb';have i0:=ok.inn _ (List.getElem_mem l0);have i1:=ok.inn _ (List.getElem_mem l1);generalize W[2*j]=a at *;generalize W[2*j+1]=b at *;have e0:(2*(j:Int)).toNat=2*j:=by lia
  have e1:(2*(j:Int)+1).toNat=2*j+1:=by lia
  have hw3:=g1 _ _ hw
  delta L_turned_1
  simp only [zb7];refine zbQ hw3 (by lia) (by rw [e1];exact hb') (zbQ hw3 (by lia) (by rw [e0];exact ha) ?_)
  refine zby g2 i0.1 (by rw [zbW];lia) ?_
  rw [zcp i0.1];have hw4:(ac.upd f (.list (zaD n.toNat fun i=>if i=a then b else mtB (mt P.reverse) ((steps W).take j).reverse i))) w=some (.list (W.map V.int)):=(zaf hwf).trans hw3
  refine zbQ hw4 (by lia) (by rw [e0];exact ha) (zbQ hw4 (by lia) (by rw [e1];exact hb') ?_)
  refine zby zab i1.1 (by rw [zbW];lia) ?_
  rw [zcp i1.1,zbn];refine hK _ _ ⟨g1.upd hf,?_,_,rfl⟩;have hjs:j<(steps W).length:=by rw [zdX];exact hj
  rw [zab,List.take_succ_eq_append_getElem hjs,List.reverse_append];have:(steps W)[j]=(a,b):=by rw [qas hjs] at hst;exact Option.some.inj hst
  rw [this]
  rfl
 ·intro ad ac zz43;refine ob61 zz43 ?_;clear zz43;intro g1 g2 t4 ee218;subst ee218;rw [qac,List.length_range,←zdX,List.take_length] at g2
  delta T_turned_1 zau zm8
  refine zjz g2 (by lia) fun b hb'=>?_
  exact hyes _ b (g1.upd (g1.none hb')) (g1.none hb') zab
theorem zlQ {aa:Store} {q:Int×Int} {l:List (Int×Int)}:memV aa (pr q) (l.map pr)=some (decide (q∈l)):=by
 induction l with
 |nil=>rfl
 |cons y l ih=>
  have:memV aa (pr q) ((y::l).map pr)=(match eqv aa fuel (pr y) (pr q),memV aa (pr q) (l.map pr) with |some a,some b=>some (a||b) |_,_=>none):=rfl
  rw [this,ih];have h:eqv aa fuel (pr y) (pr q)=some ((y.1==q.1)&&((y.2==q.2)&&true)):=rfl;rw [h];have:(y=q)=(y.1=q.1/\y.2=q.2):=by rw [Prod.ext_iff]
  by_cases e:y=q
  ·subst e;simp
  ·have h2:¬q=y:=fun h=>e h.symm;have h3:(y.1==q.1&&(y.2==q.2&&true))=false:=by
    rw [this] at e;rw [Bool.and_true,Bool.eq_false_iff];intro g;simp only [qae,beq_iff_eq] at g;exact e g
   rw [h3];simp [h2]
theorem zgg {a:Addr} {q:Int×Int} {l:List (Int×Int)} (h:aa a=some (.list (l.map pr))):inV aa (pr q) (.ref a)=some (decide (q∈l)):=by
 simp only [inV,h];exact zlQ
end
section
variable {M bk:Int->Int} {r:Int}
inductive Up (M bk:Int->Int) (r:Int):Int->List Int->Prop
 |root:Up M bk r r [r]
 |step {v:Int} {L:List Int}:v≠r->Up M bk r (bk (M v)) L->Up M bk r v (v::M v::L)
inductive Wk (M bk:Int->Int) (r:Int):Int->List Int->Int->Prop
 |nil {v:Int}:Wk M bk r v [] v
 |cons {v x:Int} {W:List Int}:v≠r->Wk M bk r (bk (M v)) W x->Wk M bk r v (v::M v::W) x
noncomputable def ev:List Int->List Int
 | []=>[]
 | [a]=>[a]
 |a::_::l=>a::ev l
noncomputable def od:List Int->List Int
 | []=>[]
 | [_]=>[]
 |_::b::l=>b::od l
variable {v:Int} {L:List Int}
theorem Up.uniq {L':List Int} (h:Up M bk r v L):Up M bk r v L'->L=L':=by
 induction h generalizing L' with
 |root=>intro g;cases g with
  |root=>rfl
  |step n _=>exact absurd rfl n
 |step n _ ih=>intro g;cases g with
  |root=>exact absurd rfl n
  |step _ g=>rw [ih g]
theorem Up.head (h:Up M bk r v L):v∈ev L:=by
 cases h with
 |root=>exact qah.mpr rfl
 |step _ _=>exact qaj
theorem Up.end (h:Up M bk r v L):r∈ev L:=by
 induction h with
 |root=>exact qah.mpr rfl
 |step _ _ ih=>exact qag _ ih
variable {x:Int} {W X:List Int}
theorem Wk.up (h:Wk M bk r v W x):Up M bk r x X->Up M bk r v (W++X):=by
 induction h with
 |nil=>exact id
 |cons n _ ih=>exact fun g=>.step n (ih g)
theorem Wk.evA (h:Wk M bk r v W x):ev (W++X)=ev W++ev X:=by
 induction h with
 |nil=>rfl
 |cons _ _ ih=>exact congrArg (_ :: ·) ih
theorem Wk.odA (h:Wk M bk r v W x):od (W++X)=od W++od X:=by
 induction h with
 |nil=>rfl
 |cons _ _ ih=>exact congrArg (_ :: ·) ih
theorem zbV {a:Int}:∀{L:List Int},a∈L->a∈ev L\/a∈od L
 | [],h=>absurd h qam
 | [_],h=>.inl h
 |b::c::L,h=>by
  rcases qad.mp h with rfl |h
  ·exact .inl qaj
  rcases qad.mp h with rfl |h
  ·exact .inr qaj
  ·exact (zbV h).imp (qag _) (qag _)
theorem zax {a:Int}:∀{L:List Int},a∈ev L->a∈L
 | [],h=>h
 | [_],h=>h
 |b::c::L,h=>by
  rcases qad.mp h with rfl |h
  ·exact qaj
  ·exact qag _ (qag _ (zax h))
theorem zbT {a:Int}:∀{L:List Int},a∈od L->a∈L
 | [],h=>h
 | [_],h=>absurd h qam
 |b::c::L,h=>by
  rcases qad.mp h with rfl |h
  ·exact qag _ qaj
  ·exact qag _ (qag _ (zbT h))
theorem znV {a:Int}:∀{L:List Int},L.Nodup->a∈ev L->a∉od L
 | [],_,h=>absurd h qam
 | [_],_,_=>qam
 |b::c::L,n,h=>fun g=>by
  have n1:=qar.mp n;have n2:=qar.mp n1.2
  rcases qad.mp h with e |h2
  ·rcases qad.mp g with e2 |g
   ·exact n1.1 (e▸e2▸qaj)
   ·exact n1.1 (e▸qag _ (zbT g))
  ·rcases qad.mp g with e2 |g
   ·exact n2.1 (e2▸zax h2)
   ·exact znV n2.2 h2 g
theorem Up.at {v a:Int} (h:Up M bk r v L):a∈ev L->∃W X,L=W++X/\Wk M bk r v W a/\Up M bk r a X:=by
 induction h with
 |root=>intro g;cases qah.mp g;exact ⟨[],[r],rfl,.nil,.root⟩
 | @step v L n u ih=>
  intro g
  rcases qad.mp g with rfl |g
  ·exact ⟨[],_,rfl,.nil,.step n u⟩
  ·refine ob2 (ih g) ?_;intro W X e w x;exact ⟨v::M v::W,X,by rw [e];rfl,.cons n w,x⟩
theorem Up.odd {y:Int} (h:Up M bk r v L):y∈od L->∃u∈ev L,u≠r/\M u=y:=by
 induction h with
 |root=>intro g;exact absurd g qam
 | @step v L n u ih=>
  intro g
  rcases qad.mp g with rfl |g
  ·exact ⟨v,qaj,n,rfl⟩
  ·refine ob1 (ih g) ?_;intro u m k;exact ⟨u,qag _ m,k⟩
theorem Up.next {u:Int} (h:Up M bk r v L) (m:u∈ev L) (n:u≠r):M u∈od L:=by
 induction h with
 |root=>exact absurd (qah.mp m) n
 | @step v L _ _ ih=>
  rcases qad.mp m with rfl |m
  ·exact qaj
  ·exact qag _ (ih m)
theorem Wk.next {u:Int} (h:Wk M bk r v W x) (m:u∈ev W):u≠r/\M u∈od W:=by
 induction h with
 |nil=>exact absurd m qam
 | @cons v x W n _ ih=>
  rcases qad.mp m with rfl |m
  ·exact ⟨n,qaj⟩
  ·exact ⟨(ih m).1,qag _ (ih m).2⟩
theorem Wk.odd {y:Int} (h:Wk M bk r v W x) (m:y∈od W):∃u∈ev W,u≠r/\M u=y:=by
 induction h with
 |nil=>exact absurd m qam
 | @cons v x W n _ ih=>
  rcases qad.mp m with rfl |m
  ·exact ⟨v,qaj,n,rfl⟩
  ·refine ob1 (ih m) ?_;intro u k l;exact ⟨u,qag _ k,l⟩
theorem Up.congr {bk':Int->Int} (h:Up M bk r v L):(∀y∈od L,bk' y=bk y)->Up M bk' r v L:=by
 induction h with
 |root=>exact fun J=>.root
 | @step v L n _ ih=>
  intro g;refine .step n ?_;rw [g _ qaj];exact ih fun y hy=>g y (qag _ hy)
theorem Wk.congr {bk':Int->Int} (h:Wk M bk r v W x):(∀y∈od W,bk' y=bk y)->Wk M bk' r v W x:=by
 induction h with
 |nil=>exact fun J=>.nil
 | @cons v x W n _ ih=>
  intro g;refine .cons n ?_;rw [g _ qaj];exact ih fun y hy=>g y (qag _ hy)
end
section
variable {M bk bs:Int->Int} {O:Int->Bool} {r:Int}
structure Bl (M bk bs:Int->Int) (O:Int->Bool) (r:Int):Prop where
 rt:O r=true
 mt:∀v,O v=true->v≠r->M (M v)=v/\M v≠r
 nx:∀v,O v=true->v≠r->O (bk (M v))=true
 up:∀v,O v=true->∃A B,Wk M bk r v A (bs v)/\Up M bk r (bs v) B/\(A++B).Nodup/\(∀x∈A,O x=true/\bs x=bs v)/\∀x∈B,x≠bs v->bs x≠bs v
 bb:∀v,O v=true->O (bs v)=true/\bs (bs v)=bs v
 ib:∀v,O v=false->bs v=v
 tp:∀b,O b=true->bs b=b->b≠r->O (M b)=false
theorem Bl.evO (h:Bl M bk bs O r) {v:Int} {L:List Int} (u:Up M bk r v L):O v=true->∀x∈ev L,O x=true:=by
 induction u with
 |root=>intro J x m;rw [qah.mp m];exact h.rt
 | @step v L n _ ih=>
  intro o x m
  rcases qad.mp m with rfl |m
  ·exact o
  ·exact ih (h.nx v o n) x m
theorem Bl.nd (h:Bl M bk bs O r) {v:Int} {L:List Int} (o:O v=true) (u:Up M bk r v L):L.Nodup:=by
 refine ob17 (h.up v o) ?_;intro A B w b n J;rw [u.uniq (w.up b)];exact n
theorem Bl.same (h:Bl M bk bs O r) {a:Int} (o:O a=true) (n:a≠r) (o':O (M a)=true):bs (M a)=bs a:=by
 have hm:=h.mt a o n;have hb:=h.bb _ o';refine ob62 (h.up (M a) o') ?_;intro A B w J J hA J;generalize bs (M a)=c at *;cases w with
 |nil=>exact absurd ((h.tp _ hb.1 hb.2 hm.2).symm.trans (hm.1.symm▸o)) qan
 |cons _ w=>exact ((hA a (qag _ (qad.mpr (.inl hm.1.symm)))).2).symm
end
section
variable {M bk bs:Int->Int} {O:Int->Bool} {r:Int}
theorem Wk.at {v a x:Int} {W:List Int} (h:Wk M bk r v W x):a∈ev W->∃P Q,W=P++Q/\Wk M bk r v P a/\Wk M bk r a Q x:=by
 induction h with
 |nil=>intro g;exact absurd g qam
 | @cons v x W n w ih=>
  intro g
  rcases qad.mp g with rfl |g
  ·exact ⟨[],_,rfl,.nil,.cons n w⟩
  ·refine ob2 (ih g) ?_;intro P Q e p q;exact ⟨v::M v::P,Q,by rw [e];rfl,.cons n p,q⟩
theorem Wk.cmp {v a b:Int} {P Q:List Int} (h:Wk M bk r v P a):Wk M bk r v Q b->(∃R,P=Q++R/\Wk M bk r b R a)\/∃R,Q=P++R/\Wk M bk r a R b:=by
 induction h generalizing Q b with
 |nil=>exact fun g=>.inr ⟨Q,rfl,g⟩
 | @cons v x W n w ih=>
  intro g;cases g with
  |nil=>exact .inl ⟨_,rfl,.cons n w⟩
  |cons n' g=>
   rcases ih g with ⟨R,e,k⟩ |⟨R,e,k⟩
   ·exact .inl ⟨R,by rw [e];rfl,k⟩
   ·exact .inr ⟨R,by rw [e];rfl,k⟩
theorem Wk.hd {v x:Int} {W:List Int} (h:Wk M bk r v W x):v=x\/v∈ev W:=by
 cases h with
 |nil=>exact .inl rfl
 |cons _ _=>exact .inr qaj
structure Side (M bk bs:Int->Int) (O:Int->Bool) (r v m:Int) (W:List Int) (x:Int) (X:List Int):Prop where
 o:O v=true
 w:Wk M bk r v W x
 u:Up M bk r x X
 b:bs x=m
 n:∀y∈W,bs y≠m
variable {v m x:Int} {W X:List Int}
theorem Side.all (s:Side M bk bs O r v m W x X):Up M bk r v (W++X):=s.w.up s.u
theorem Side.nd (s:Side M bk bs O r v m W x X) (h:Bl M bk bs O r):(W++X).Nodup:=h.nd s.o s.all
variable {y:Int}
theorem Side.evo (s:Side M bk bs O r v m W x X) (h:Bl M bk bs O r) (g:y∈ev W):O y=true:=h.evO s.all s.o y (by rw [s.w.evA];exact qaw _ g)
theorem Side.xo (s:Side M bk bs O r v m W x X) (h:Bl M bk bs O r):O x=true:=h.evO s.all s.o x (by rw [s.w.evA];exact qap _ s.u.head)
theorem Side.base (s:Side M bk bs O r v m W x X) (h:Bl M bk bs O r) (g:y∈ev W):bs y∈ev W:=by
 have o:=s.evo h g;have ny:=s.n y (zax g);refine ob62 (h.up y o) ?_;intro A B w J J hA J;refine ob2 (s.w.at g) ?_;intro P Q e p q;have nx:bs y≠x:=fun z=>ny (by rw [←(h.bb y o).2,z];exact s.b)
 rcases q.cmp w with ⟨R,e2,k⟩ |⟨R,e2,k⟩
 ·rcases k.hd with z |z
  ·exact absurd z nx
  ·rw [e,e2,p.evA,w.evA];exact qap _ (qap _ z)
 ·rcases k.hd with z |z
  ·exact absurd z.symm nx
  ·exact absurd ((hA x (by rw [e2];exact qap _ (zax z))).2.symm.trans s.b) ny
theorem Side.baseO (s:Side M bk bs O r v m W x X) (h:Bl M bk bs O r) (g:y∈W) (o:O y=true):bs y∈ev W:=by
 rcases zbV g with g |g
 ·exact s.base h g
 ·refine ob6 (s.w.odd g) ?_;intro u k n ee219;subst ee219;rw [h.same (s.evo h k) n o];exact s.base h k
theorem Side.tail (s:Side M bk bs O r v m W x X) (h:Bl M bk bs O r):∃A B,X=A++B/\Wk M bk r x A m/\Up M bk r m B/\(∀y∈A,O y=true/\bs y=m)/\∀y∈B,y≠m->bs y≠m:=by
 refine ob62 (h.up x (s.xo h)) ?_;intro A B w b J hA hB;rw [s.b] at w b hA hB;exact ⟨A,B,s.u.uniq (w.up b),w,b,hA,hB⟩
theorem Side.apart {v' x':Int} {W' X':List Int} (s:Side M bk bs O r v m W x X) (s':Side M bk bs O r v' m W' x' X') (h:Bl M bk bs O r) (d:∀y∈W,∀z∈W',bs y≠bs z) (g:y∈W):y∉W'++X':=by
 intro k
 rcases qao.mp k with k |k
 ·exact d y g y k rfl
 ·refine ob17 (s.tail h) ?_;intro A B e J u J;refine ob62 (s'.tail h) ?_;intro A' B' e' J u' hA' J;rw [e'] at k
  rcases qao.mp k with k |k
  ·exact s.n y g (hA' y k).2
  ·have nd:=s.nd h;rw [e,u.uniq u'] at nd;exact (List.nodup_append.mp nd).2.2 y g y (qap _ k) rfl
end
section
variable {M bk bs:Int->Int} {O:Int->Bool} {r:Int}
noncomputable def mkb (f:Int->Int) (c:Int):List Int->Int->Int
 | []=>f
 | [_]=>f
 |p::v::W=>mkb (fun x=>if x=p then c else f x) v W
theorem zcO {f:Int->Int} {c x:Int}:∀{W:List Int},x∉ev W->mkb f c W x=f x
 | [],_=>rfl
 | [_],_=>rfl
 |p::v::W,h=>by
  show mkb _ v W x=_;rw [zcO fun z=>h (qag _ z)];exact if_neg fun (z:x=p)=>h (qad.mpr (.inl z))
theorem Wk.trans {v a x:Int} {P Q:List Int} (h:Wk M bk r v P a):Wk M bk r a Q x->Wk M bk r v (P++Q) x:=by
 induction h with
 |nil=>exact id
 |cons n _ ih=>exact fun g=>.cons n (ih g)
theorem Wk.back {B:Int->Int} {v x:Int} {W:List Int} (h:Wk M bk r v W x):∀{f:Int->Int} {c:Int},(∀y∈ev W,B y=mkb f c W y)->W.Nodup->(∀u∈ev W,M (M u)=u/\M u≠r) ->
  ∀y∈ev W,∃K,(∀k∈K,k∈W)/\K.Nodup/\Wk M B r (M y) K c:=by
 induction h with
 |nil=>intro f c J J J y m;exact absurd m qam
 | @cons v x W n w ih=>
  intro f c hB nd hm y m;have n1:=qar.mp nd;have n2:=qar.mp n1.2;have hv:=hm v qaj;have bv:B v=c:=by
   rw [hB v qaj];show mkb _ (M v) W v=c;rw [zcO fun z=>n1.1 (qag _ (zax z))];exact if_pos rfl
  have w1:Wk M B r (M v) [M v,v] c:=by
   have:Wk M B r (M v) (M v::M (M v)::[]) c:=.cons hv.2 (by rw [hv.1,bv];exact .nil)
   rw [hv.1] at this;exact this
  rcases qad.mp m with rfl |m
  ·exact ⟨_,fun k hk=>by
    rcases qad.mp hk with rfl |hk
    ·exact qag _ qaj
    ·exact qah.mp hk▸qaj,qar.mpr ⟨fun z=>n1.1 (qad.mpr (.inl (qah.mp z).symm)),qar.mpr ⟨qam,.nil⟩⟩,w1⟩
  ·refine ob6 (ih (f:=fun x=>if x=v then c else f x) (c:=M v) (fun z hz=>hB z (qag _ hz)) n2.2 (fun u hu=>hm u (qag _ hu)) y m) ?_
   intro K k1 k2 k3;refine ⟨K++[M v,v],fun k hk=>?_,List.nodup_append.mpr ⟨k2,?_,?_⟩,k3.trans w1⟩
   ·rcases qao.mp hk with hk |hk
    ·exact qag _ (qag _ (k1 k hk))
    ·rcases qad.mp hk with rfl |hk
     ·exact qag _ qaj
     ·exact qah.mp hk▸qaj
   ·exact qar.mpr ⟨fun z=>n1.1 (qad.mpr (.inl (qah.mp z).symm)),qar.mpr ⟨qam,.nil⟩⟩
   ·intro a ha b hb e;subst e;have ha:=k1 a ha
    rcases qad.mp hb with rfl |hb
    ·exact n2.1 ha
    ·exact n1.1 (qag _ (qah.mp hb▸ha))
theorem Wk.first (S:Int->Prop) {z x:Int} {A:List Int} (h:Wk M bk r z A x):(∀y∈od A,¬S y)\/∃P u Q,A=P++Q/\Wk M bk r z P u/\Wk M bk r u Q x/\u∈ev Q/\S (M u)/\∀y∈od P,¬S y:=by
 induction h with
 |nil=>exact .inl fun y m=>absurd m qam
 | @cons v x W n w ih=>
  by_cases s:S (M v)
  ·exact .inr ⟨[],v,_,rfl,.nil,.cons n w,qaj,s,fun y m=>absurd m qam⟩
  ·rcases ih with g |⟨P,u,Q,e,p,q,k,l,o⟩
   ·exact .inl fun y m=>(qad.mp m).elim (fun e=>e▸s) (g y)
   ·exact .inr ⟨v::M v::P,u,Q,by rw [e];rfl,.cons n p,q,k,l,fun y m=>(qad.mp m).elim (fun e=>e▸s) (o y)⟩
end
section
variable {M bk bs B:Int->Int} {O:Int->Bool} {r one other m x1 x2:Int} {W1 W2 X1 X2:List Int}
structure Rng (M bk bs B:Int->Int) (O:Int->Bool) (r one other m x1 x2:Int) (W1 W2 X1 X2:List Int):Prop where
 h:Bl M bk bs O r
 s1:Side M bk bs O r one m W1 x1 X1
 s2:Side M bk bs O r other m W2 x2 X2
 dj:∀y∈W1,∀z∈W2,bs y≠bs z
 f1:∃f,∀y∈ev W1,B y=mkb f other W1 y
 f2:∃f,∀y∈ev W2,B y=mkb f one W2 y
 f0:∀y,y∉ev W1->y∉ev W2->B y=bk y
theorem Rng.sym (R:Rng M bk bs B O r one other m x1 x2 W1 W2 X1 X2):Rng M bk bs B O r other one m x2 x1 W2 W1 X2 X1:=
 ⟨R.h,R.s2,R.s1,fun y hy z hz e=>R.dj z hz y hy e.symm,R.f2,R.f1,fun y a b=>R.f0 y b a⟩
theorem Rng.ap (R:Rng M bk bs B O r one other m x1 x2 W1 W2 X1 X2) {y:Int} (g:y∈W1):y∉W2++X2:=R.s1.apart R.s2 R.h R.dj g
theorem Rng.od1 (R:Rng M bk bs B O r one other m x1 x2 W1 W2 X1 X2) {y:Int} (g:y∈od (W1++X1)):B y=bk y:=
 R.f0 y (fun z=>znV (R.s1.nd R.h) (by rw [R.s1.w.evA];exact qaw _ z) g) fun z=>R.sym.ap (zax z) (zbT g)
theorem Rng.w1 (R:Rng M bk bs B O r one other m x1 x2 W1 W2 X1 X2):Wk M B r one W1 x1:=
 R.s1.w.congr fun y g=>R.od1 (by rw [R.s1.w.odA];exact qaw _ g)
theorem Rng.tail (R:Rng M bk bs B O r one other m x1 x2 W1 W2 X1 X2) {Lm:List Int} (u:Up M bk r m Lm):∃Q,X1=Q++Lm/\Wk M B r x1 Q m/\Up M B r m Lm/\∀y∈Q,O y=true/\bs y=m:=by
 refine ob62 (R.s1.tail R.h) ?_;intro A L e w l hA J;cases l.uniq u;have k:∀y∈od X1,B y=bk y:=fun y g=>R.od1 (by rw [R.s1.w.odA];exact qap _ g)
 rw [e,w.odA] at k;exact ⟨A,e,w.congr fun y g=>k y (qaw _ g),l.congr fun y g=>k y (qap _ g),hA⟩
theorem Rng.mm (R:Rng M bk bs B O r one other m x1 x2 W1 W2 X1 X2) {u:Int} (g:u∈ev W1):M (M u)=u/\M u≠r:=R.h.mt u (R.s1.evo R.h g) (R.s1.w.next g).1
theorem Rng.turn (R:Rng M bk bs B O r one other m x1 x2 W1 W2 X1 X2) {Lm:List Int} (um:Up M bk r m Lm) {y:Int} (g:y∈ev W1) :
  ∃A,Wk M B r (M y) A m/\(A++Lm).Nodup/\∀x∈A,x∈W1\/x∈W2\/(O x=true/\bs x=m):=by
 refine lift fun g9 k9=>?_;refine ob14 R.f1 ?_;intro f hf;refine ob6 (R.s1.w.back hf (List.nodup_append.mp (R.s1.nd R.h)).1 (fun u hu=>R.mm hu) y g) ?_;intro K k1 k2 k3;refine ob8 (R.sym.tail um) ?_;intro Q e w J hQ
 apply k9
 clear k9 g9;refine ⟨K++(W2++Q),k3.trans (R.sym.w1.trans w),?_,fun x hx=>?_⟩
 ·have n2:=R.s2.nd R.h;rw [e,←List.append_assoc] at n2;rw [List.append_assoc];refine List.nodup_append.mpr ⟨k2,n2,fun a ha b hb ee=>R.ap (k1 a ha) ?_⟩;rw [e,←List.append_assoc,ee];exact hb
 ·rcases qao.mp hx with hx |hx
  ·exact .inl (k1 x hx)
  ·exact (qao.mp hx).elim (fun z=>.inr (.inl z)) fun z=>.inr (.inr (hQ x z))
theorem Bl.par (h:Bl M bk bs O r) {v x:Int} {W X:List Int} (s:Side M bk bs O r v m W x X) {b u:Int} {P Xu:List Int} (ob:O b=true) (p:Wk M bk r b P u) (g:Up M bk r u Xu) (n:u≠r)
  (hS:∀y∈od P,y∉ev W) (hu:M u∉od (W++X)):∀a∈P,a∉W:=by
 have evP:∀c∈ev P,O c=true:=fun c hc=>h.evO (p.up g) ob c (by rw [p.evA];exact qaw _ hc)
 have ee:∀a,a∈ev P->a∉ev W:=fun a ha hw=>by
  refine ob2 (p.at ha) ?_;intro P1 P2 J J p2;obtain ⟨W',Y,e,w',y⟩:=s.all.at (a:=a) (by rw [s.w.evA];exact qaw _ hw)
  rw [e,w'.odA,y.uniq (p2.up g),p2.odA] at hu;exact hu (qap _ (qap _ (g.next g.head n)))
 intro a ha hw
 rcases zbV ha with a1 |a1<;>rcases zbV hw with w1 |w1
 ·exact ee a a1 w1
 ·refine ob6 (s.w.odd w1) ?_;intro d hd nd ee220;subst ee220;have:=(p.next a1).2;rw [(h.mt d (s.evo h hd) nd).1] at this;exact hS _ this hd
 ·exact hS a a1 w1
 ·refine ob6 (p.odd a1) ?_;intro c hc nc ee221;subst ee221;refine ob6 (s.w.odd w1) ?_;intro d hd nd e;have:d=c:=by rw [←(h.mt d (s.evo h hd) nd).1,e,(h.mt c (evP c hc) nc).1]
  exact ee c hc (this▸hd)
theorem Rng.pd (R:Rng M bk bs B O r one other m x1 x2 W1 W2 X1 X2) {b u:Int} {P Xu:List Int} (ob:O b=true) (p:Wk M bk r b P u) (g:Up M bk r u Xu) (n:u≠r)
  (hS:∀y∈od P,¬(y∈ev W1\/y∈ev W2)) (hu:M u∈ev W1):∀a∈P,a∉W1/\a∉W2/\¬(O a=true/\bs a=m):=by
 have evP:∀c∈ev P,O c=true:=fun c hc=>R.h.evO (p.up g) ob c (by rw [p.evA];exact qaw _ hc)
 have c1:=R.h.par R.s1 ob p g n (fun y hy z=>hS y hy (.inl z)) fun z=>znV (R.s1.nd R.h) (by rw [R.s1.w.evA];exact qaw _ hu) z
 have c2:=R.h.par R.s2 ob p g n (fun y hy z=>hS y hy (.inr z)) fun z=>R.ap (zax hu) (zbT z);have c3:∀a∈ev P,bs a≠m:=fun a ha e=>by
  refine lift fun g9 k9=>?_;refine ob2 (p.at ha) ?_;intro P1 P2 J J p2;refine ob62 (R.h.up a (evP a ha)) ?_;intro A L w l J hA J;refine ob17 (R.s1.tail R.h) ?_;intro A' L' e' J l' J
  apply k9
  clear k9 g9;rw [e] at w l hA;have k:M u∈A++L:=by
   rw [←(p2.up g).uniq (w.up l)];exact qap _ (zbT (g.next g.head n))
  rcases qao.mp k with k |k
  ·exact R.s1.n _ (zax hu) (hA _ k).2
  ·have nd:=R.s1.nd R.h;rw [e',l'.uniq l] at nd;exact (List.nodup_append.mp nd).2.2 _ (zax hu) _ (qap _ k) rfl
 refine fun a ha=>⟨c1 a ha,c2 a ha,fun ⟨o,e⟩=>?_⟩
 rcases zbV ha with a1 |a1
 ·exact c3 a a1 e
 ·refine ob6 (p.odd a1) ?_;intro c hc nc ee222;subst ee222;exact c3 c hc ((R.h.same (evP c hc) nc o).symm.trans e)
end
section
variable {M bk bs B:Int->Int} {O:Int->Bool} {r one other m x1 x2:Int} {W1 W2 X1 X2:List Int}
theorem Up.wk {v:Int} {L:List Int} (h:Up M bk r v L):∃W,L=W++[r]/\Wk M bk r v W r:=by
 induction h with
 |root=>exact ⟨[],rfl,.nil⟩
 | @step v L n _ ih=>
  refine ob1 ih ?_;clear ih;intro W e w;exact ⟨v::M v::W,by rw [e];rfl,.cons n w⟩
def Cm (bs:Int->Int) (m:Int) (W1 W2:List Int) (x:Int):Prop:=bs x=m\/∃y,(y∈W1\/y∈W2)/\bs y=bs x
theorem Cm.sym {x:Int} (h:Cm bs m W1 W2 x):Cm bs m W2 W1 x:=h.imp id fun ⟨y,a,b⟩=>⟨y,a.symm,b⟩
theorem Rng.mo (R:Rng M bk bs B O r one other m x1 x2 W1 W2 X1 X2):O m=true/\bs m=m:=by
 have:=R.h.bb x1 (R.s1.xo R.h);rw [R.s1.b] at this;exact this
variable {Lm:List Int}
theorem Rng.from (R:Rng M bk bs B O r one other m x1 x2 W1 W2 X1 X2) {Lc:List Int} (um:Up M bk r m Lm) {c:Int} (g:c∈ev W1) (uc:Up M bk r c Lc) :
  ∃Q,Wk M B r c Q m/\Lc=Q++Lm/\∀x∈Q,x∈W1\/(O x=true/\bs x=m):=by
 refine lift fun g9 k9=>?_;refine ob2 (R.w1.at g) ?_;intro P Q e J q;refine ob2 (R.s1.w.at g) ?_;intro P' Q' e' p' q';refine ob8 (R.tail um) ?_;intro Q2 e2 w2 J hQ2
 apply k9
 clear k9 g9;have q3:Wk M B r c Q' x1:=q'.congr fun y hy=>R.od1 (by rw [R.s1.w.odA,e',p'.odA];exact qaw _ (qap _ hy))
 refine ⟨Q'++Q2,q3.trans w2,?_,fun x hx=>(qao.mp hx).imp (fun z=>?_) (hQ2 x)⟩
 ·rw [uc.uniq (q'.up R.s1.u),e2,List.append_assoc]
 ·rw [e'];exact qap _ z
theorem Rng.bm (R:Rng M bk bs B O r one other m x1 x2 W1 W2 X1 X2) {y:Int} (g:y∈W1) (o:O (bs y)=true):bs y∈ev W1:=by
 cases oy:O y with
 |true=>exact R.s1.baseO R.h g oy
 |false=>rw [R.h.ib y oy,oy] at o;cases o
variable {z:Int}
theorem Rng.n1 (R:Rng M bk bs B O r one other m x1 x2 W1 W2 X1 X2) (um:Up M bk r m Lm) (o:O z=true) (b:bs z∈ev W1) :
  ∃A,Wk M B r z A m/\(A++Lm).Nodup/\∀x∈A,Cm bs m W1 W2 x:=by
 refine ob62 (R.h.up z o) ?_;intro A L w l nd hA J;refine ob6 (R.from um b l) ?_;intro Q q e hQ
 rcases w.first (fun y=>y∈ev W1\/y∈ev W2) with g |⟨P,u,Q0,eA,p,q0,ku,su,hp⟩
 ·refine ⟨A++Q,(w.congr fun y hy=>R.f0 y (fun z=>g y hy (.inl z)) fun z=>g y hy (.inr z)).trans q,by rw [List.append_assoc,←e];exact nd,fun x hx=>?_⟩
  rcases qao.mp hx with hx |hx
  ·exact .inr ⟨bs z,.inl (zax b),by rw [(R.h.bb z o).2,(hA x hx).2]⟩
  ·exact (hQ x hx).elim (fun z=>.inr ⟨x,.inl z,rfl⟩) fun z=>.inl z.2
 ·have nr:=(q0.next ku).1;have mA:M u∈A:=by rw [eA];exact qap _ (zbT (q0.next ku).2)
  have hu:M u∈ev W1:=su.elim id fun k=>absurd ((R.h.bb z o).2.trans (hA _ mA).2.symm) (R.dj _ (zax b) _ (zax k));have ou:O u=true:=(hA u (by rw [eA];exact qap _ (zax ku))).1
  refine ob6 (R.turn um hu) ?_;intro A1 a1 a2 a3;rw [(R.h.mt u ou nr).1] at a1;rw [eA,List.append_assoc] at nd;have nP:=List.nodup_append.mp nd;have pd:=R.pd o p (q0.up l) nr hp hu;refine ⟨P++A1,(p.congr fun y hy=>R.f0 y (fun z=>hp y hy (.inl z)) fun z=>hp y hy (.inr z)).trans a1,?_,fun x hx=>?_⟩
  ·rw [List.append_assoc];refine List.nodup_append.mpr ⟨nP.1,a2,fun a ha c hc ee=>?_⟩;subst ee
   rcases qao.mp hc with hc |hc
   ·have:=pd a ha;exact (a3 a hc).elim this.1 fun z=>z.elim this.2.1 this.2.2
   ·exact nP.2.2 a ha a (qap _ (by rw [e];exact qap _ hc)) rfl
  ·rcases qao.mp hx with hx |hx
   ·exact .inr ⟨bs z,.inl (zax b),by rw [(R.h.bb z o).2,(hA x (by rw [eA];exact qaw _ hx)).2]⟩
   ·exact (a3 x hx).elim (fun z=>.inr ⟨x,.inl z,rfl⟩) fun z=>z.elim (fun z=>.inr ⟨x,.inr z,rfl⟩) fun z=>.inl z.2
theorem Rng.inn (R:Rng M bk bs B O r one other m x1 x2 W1 W2 X1 X2) {y:Int} (o:O z=false) (g:y∈W1) (e:bs y=bs z):∃u∈ev W1,M u=z:=by
 rw [R.h.ib z o] at e;have oy:O y=false:=by
  cases oy:O y with
  |false=>rfl
  |true=>have:=(R.h.bb y oy).1;rw [e,o] at this;cases this
 rw [R.h.ib y oy] at e;subst e
 rcases zbV g with k |k
 ·rw [R.s1.evo R.h k] at o;cases o
 ·refine ob6 (R.s1.w.odd k) ?_;intro u a J c;exact ⟨u,a,c⟩
theorem Rng.n1' (R:Rng M bk bs B O r one other m x1 x2 W1 W2 X1 X2) (um:Up M bk r m Lm) {y:Int} (g:y∈W1) (e:bs y=bs z) :
  ∃A,Wk M B r z A m/\(A++Lm).Nodup/\∀x∈A,Cm bs m W1 W2 x:=by
 cases o:O z with
 |true=>exact R.n1 um o (e▸R.bm g (by rw [e];exact (R.h.bb z o).1))
 |false=>
  refine ob1 (R.inn o g e) ?_;intro u hu ee223;subst ee223;refine ob6 (R.turn um hu) ?_;intro A1 a1 a2 a3;exact ⟨A1,a1,a2,fun x hx=>(a3 x hx).elim (fun z=>.inr ⟨x,.inl z,rfl⟩) fun z=>z.elim (fun z=>.inr ⟨x,.inr z,rfl⟩) fun z=>.inl z.2⟩
theorem Rng.new (R:Rng M bk bs B O r one other m x1 x2 W1 W2 X1 X2) (um:Up M bk r m Lm) (c:Cm bs m W1 W2 z) :
  ∃A,Wk M B r z A m/\(A++Lm).Nodup/\∀x∈A,Cm bs m W1 W2 x:=by
 rcases c with c |⟨y,g |g,e⟩
 ·cases o:O z with
  |false=>rw [R.h.ib z o] at c;rw [c,R.mo.1] at o;cases o
  |true=>
   refine ob62 (R.h.up z o) ?_;intro A L w l nd hA J;rw [c] at w l hA;cases l.uniq um;exact ⟨A,w.congr fun y hy=>R.f0 y (fun k=>R.s1.n y (zax k) (hA y (zbT hy)).2) fun k=>R.s2.n y (zax k) (hA y (zbT hy)).2,nd,fun x hx=>.inl (hA x hx).2⟩
 ·exact R.n1' um g e
 ·refine ob6 (R.sym.n1' um g e) ?_;intro A a1 a2 a3;exact ⟨A,a1,a2,fun x hx=>(a3 x hx).sym⟩
end
section
variable {M bk bs B:Int->Int} {O:Int->Bool} {r one other m x1 x2:Int} {W1 W2 X1 X2:List Int}
theorem Rng.n2 (R:Rng M bk bs B O r one other m x1 x2 W1 W2 X1 X2) {Lm:List Int} (um:Up M bk r m Lm) {z u:Int} {A L P Q0:List Int} (c:¬Cm bs m W1 W2 z) (ob:O (bs z)=true) (l:Up M bk r (bs z) L) (nd:(A++L).Nodup)
  (hA:∀x∈A,O x=true/\bs x=bs z) (hL:∀x∈L,x≠bs z->bs x≠bs z) (e:L=P++Q0) (p:Wk M bk r (bs z) P u) (q0:Up M bk r u Q0) (nr:u≠r) (hp:∀y∈od P,¬(y∈ev W1\/y∈ev W2)) (hu:M u∈ev W1) :
  ∃L',Up M B r (bs z) L'/\(A++L').Nodup/\∀x∈L',x≠bs z->Cm bs m W1 W2 x\/bs x≠bs z:=by
 have ou:O u=true:=R.h.evO l ob u (by rw [e,p.evA];exact qap _ q0.head)
 refine ob6 (R.turn um hu) ?_;intro A1 a1 a2 a3;rw [(R.h.mt u ou nr).1] at a1;have pd:=R.pd ob p q0 nr hp hu;refine ob8 (R.tail um) ?_;intro J J J um' J
 -- the way up from the meeting place lies in the old way
 have sub:∀x∈Lm,x∈Q0:=fun x hx=>by
  refine ob2 (R.h.up u ou) ?_;intro A2 L2 w2 l2 J;have eb:=R.h.same ou nr (R.s1.evo R.h hu);have cb:bs u∈ev W1:=eb▸R.s1.base R.h hu;refine ob6 (R.from um cb l2) ?_;intro Q J e2 J;rw [q0.uniq (w2.up l2),e2];exact qap _ (qap _ hx)
 rw [e] at nd hL;have n1:=List.nodup_append.mp nd;have n3:=List.nodup_append.mp n1.2.1;refine ⟨P++(A1++Lm),(p.congr fun y hy=>R.f0 y (fun k=>hp y hy (.inl k)) fun k=>hp y hy (.inr k)).up (a1.up um'),?_,fun x hx ne=>?_⟩
 ·refine List.nodup_append.mpr ⟨n1.1,List.nodup_append.mpr ⟨n3.1,a2,fun a ha b hb ee=>?_⟩,fun a ha b hb ee=>?_⟩
  ·subst ee
   rcases qao.mp hb with hb |hb
   ·have:=pd a ha;exact (a3 a hb).elim this.1 fun k=>k.elim this.2.1 this.2.2
   ·exact n3.2.2 a ha a (sub a hb) rfl
  ·subst ee
   rcases qao.mp hb with hb |hb
   ·exact n1.2.2 a ha a (qaw _ hb) rfl
   rcases qao.mp hb with hb |hb
   ·have g:=(hA a ha).2;exact (a3 a hb).elim (fun k=>c (.inr ⟨a,.inl k,g⟩)) fun k=>k.elim (fun k=>c (.inr ⟨a,.inr k,g⟩)) fun k=>c (.inl (g.symm.trans k.2))
   ·exact n1.2.2 a ha a (qap _ (sub a hb)) rfl
 ·rcases qao.mp hx with hx |hx
  ·exact .inr (hL x (qaw _ hx) ne)
  rcases qao.mp hx with hx |hx
  ·exact .inl ((a3 x hx).elim (fun k=>.inr ⟨x,.inl k,rfl⟩) fun k=>k.elim (fun k=>.inr ⟨x,.inr k,rfl⟩) fun k=>.inl k.2)
  ·exact .inr (hL x (qap _ (sub x hx)) ne)
theorem Rng.old (R:Rng M bk bs B O r one other m x1 x2 W1 W2 X1 X2) {Lm:List Int} (um:Up M bk r m Lm) {z:Int} (o:O z=true) (c:¬Cm bs m W1 W2 z) :
  ∃A L,Wk M B r z A (bs z)/\Up M B r (bs z) L/\(A++L).Nodup/\(∀x∈A,O x=true/\bs x=bs z)/\∀x∈L,x≠bs z->Cm bs m W1 W2 x\/bs x≠bs z:=by
 refine ob62 (R.h.up z o) ?_;intro A L w l nd hA hL;have ob:=(R.h.bb z o).1;have w':Wk M B r z A (bs z):=w.congr fun y hy=>R.f0 y (fun k=>c (.inr ⟨y,.inl (zax k),(hA y (zbT hy)).2⟩)) fun k=>c (.inr ⟨y,.inr (zax k),(hA y (zbT hy)).2⟩);refine ob1 l.wk ?_;intro W e v
 rcases v.first (fun y=>y∈ev W1\/y∈ev W2) with g |⟨P,u,Q0,eP,p,q0,ku,su,hp⟩
 ·refine ⟨A,L,w',?_,nd,hA,fun x hx ne=>.inr (hL x hx ne)⟩;rw [e];exact (v.congr fun y hy=>R.f0 y (fun k=>g y hy (.inl k)) fun k=>g y hy (.inr k)).up .root
 ·have nr:=(q0.next ku).1;have e2:L=P++(Q0++[r]):=by rw [e,eP,List.append_assoc]
  rcases su with su |su
  ·refine ob6 (R.n2 um c ob l nd hA hL e2 p (q0.up .root) nr hp su) ?_;intro L' a b d;exact ⟨A,L',w',a,b,hA,d⟩
  ·refine ob6 (R.sym.n2 um (fun k=>c k.sym) ob l nd hA hL e2 p (q0.up .root) nr (fun y hy k=>hp y hy k.symm) su) ?_;intro L' a b d;exact ⟨A,L',w',a,b,hA,fun x hx ne=>(d x hx ne).imp Cm.sym id⟩
end
section
variable {M bk bs B:Int->Int} {O:Int->Bool} {r one other m x1 x2:Int} {W1 W2 X1 X2:List Int}
theorem Cm.of {x z:Int} (e:bs x=bs z) (h:Cm bs m W1 W2 z):Cm bs m W1 W2 x:=by
 unfold Cm at *;rw [e];exact h
theorem Rng.inn2 (R:Rng M bk bs B O r one other m x1 x2 W1 W2 X1 X2) {z:Int} (o:O z=false) (c:Cm bs m W1 W2 z):∃u,(u∈ev W1\/u∈ev W2)/\M u=z/\M (M u)=u/\u≠r:=by
 rcases c with c |⟨y,g |g,e⟩
 ·rw [R.h.ib z o] at c;rw [c,R.mo.1] at o;cases o
 ·refine ob1 (R.inn o g e) ?_;intro u a b;exact ⟨u,.inl a,b,(R.mm a).1,(R.s1.w.next a).1⟩
 ·refine ob1 (R.sym.inn o g e) ?_;intro u a b;exact ⟨u,.inr a,b,(R.sym.mm a).1,(R.s2.w.next a).1⟩
theorem Rng.lm1 (R:Rng M bk bs B O r one other m x1 x2 W1 W2 X1 X2) {Lm:List Int} (um:Up M bk r m Lm) {x y:Int} (hx:x∈Lm) (g:y∈W1):bs y≠bs x:=by
 intro e;have dis:∀b∈W1,b≠x:=fun b hb ee=>by
  refine ob1 (R.tail um) ?_;intro Q e1 J;have nd:=R.s1.nd R.h;rw [e1] at nd;exact (List.nodup_append.mp nd).2.2 b hb x (qap _ hx) ee
 cases o:O (bs y) with
 |true=>
  have b:=R.bm g o;have ob:=R.s1.evo R.h b;have bb:bs (bs y)=bs y:=by
   cases oy:O y with
   |true=>exact (R.h.bb y oy).2
   |false=>rw [R.h.ib y oy,R.h.ib y oy]
  refine ob62 (R.h.up (bs y) ob) ?_;intro A L w l J J hL;rw [bb] at w l hL;refine ob6 (R.from um b l) ?_;intro Q J e2 J;exact hL x (by rw [e2];exact qap _ hx) (Ne.symm (dis _ (zax b))) e.symm
 |false=>
  have oy:O y=false:=by
   cases oy:O y with
   |false=>rfl
   |true=>rw [(R.h.bb y oy).1] at o;cases o
  have ox:O x=false:=by
   cases ox:O x with
   |false=>rfl
   |true=>have:=(R.h.bb x ox).1;rw [←e,o] at this;cases this
  rw [R.h.ib y oy,R.h.ib x ox] at e;exact dis y g e
theorem Rng.lm (R:Rng M bk bs B O r one other m x1 x2 W1 W2 X1 X2) {Lm:List Int} (um:Up M bk r m Lm) {x:Int} (hx:x∈Lm) (n:x≠m):¬Cm bs m W1 W2 x:=by
 rintro (c |⟨y,g |g,e⟩)
 ·refine ob62 (R.s1.tail R.h) ?_;intro A L J J l J hL;cases l.uniq um;exact hL x hx n c
 ·exact R.lm1 um hx g e
 ·exact R.sym.lm1 um hx g e
theorem Rng.bl (R:Rng M bk bs B O r one other m x1 x2 W1 W2 X1 X2) {bs':Int->Int} {O':Int->Bool} (h1:∀x,Cm bs m W1 W2 x->bs' x=m) (h2:∀x,¬Cm bs m W1 W2 x->bs' x=bs x)
  (ho:∀x,O' x=true↔O x=true\/Cm bs m W1 W2 x):Bl M B bs' O' r:=by
 refine ob17 (R.s1.tail R.h) ?_;intro J Lm J J um J;refine ob8 (R.tail um) ?_;intro J J J um' J;have cm:Cm bs m W1 W2 m:=.inl R.mo.2;have noS:∀v,O v=true->v≠r->¬Cm bs m W1 W2 v->B (M v)=bk (M v):=fun v o n c=>
  R.f0 _ (fun k=>c (.inr ⟨M v,.inl (zax k),R.h.same o n (R.s1.evo R.h k)⟩)) fun k=>c (.inr ⟨M v,.inr (zax k),R.h.same o n (R.s2.evo R.h k)⟩)
 have old:∀v,O' v=true->¬Cm bs m W1 W2 v->O v=true:=fun v o c=>((ho v).mp o).resolve_right c;refine ⟨(ho r).mpr (.inl R.h.rt),fun v o n=>?_,fun v o n=>?_,fun v o=>?_,fun v o=>?_,fun v o=>?_,fun b o e n=>?_⟩
 ·cases ov:O v with
  |true=>exact R.h.mt v ov n
  |false=>
   obtain ⟨u,_,rfl,k,l⟩:=R.inn2 ov (((ho v).mp o).resolve_left (by rw [ov];exact qan))
   rw [k];exact ⟨rfl,l⟩
 ·by_cases c:Cm bs m W1 W2 v
  ·refine ob6 (R.new um c) ?_;intro A a1 J a3;cases a1 with
   |nil=>
    have t:=R.h.tp _ R.mo.1 R.mo.2 n;rw [R.f0 _ (fun k=>by rw [R.s1.evo R.h k] at t;cases t) fun k=>by rw [R.s2.evo R.h k] at t;cases t]
    exact (ho _).mpr (.inl (R.h.nx _ R.mo.1 n))
   |cons _ w=>
    rcases w.hd with k |k
    ·rw [k];exact (ho m).mpr (.inr cm)
    ·exact (ho _).mpr (.inr (a3 _ (qag _ (qag _ (zax k)))))
  ·have ov:=old v o c;rw [noS v ov n c];exact (ho _).mpr (.inl (R.h.nx v ov n))
 ·by_cases c:Cm bs m W1 W2 v
  ·rw [h1 v c];refine ob6 (R.new um c) ?_;intro A a1 a2 a3;refine ⟨A,Lm,a1,um',a2,fun x hx=>⟨(ho x).mpr (.inr (a3 x hx)),h1 x (a3 x hx)⟩,fun x hx ne=>?_⟩;have:=R.lm um hx ne;rw [h2 x this];exact fun k=>this (.inl k)
  ·rw [h2 v c];refine ob62 (R.old um (old v o c) c) ?_;intro A L a1 a2 a3 a4 a5;refine ⟨A,L,a1,a2,a3,fun x hx=>⟨(ho x).mpr (.inl (a4 x hx).1),?_⟩,fun x hx ne=>?_⟩
   ·rw [h2 x fun k=>c (k.of (a4 x hx).2.symm)];exact (a4 x hx).2
   ·by_cases cx:Cm bs m W1 W2 x
    ·rw [h1 x cx];exact fun k=>c (.inl k.symm)
    ·rw [h2 x cx];exact (a5 x hx ne).resolve_left cx
 ·by_cases c:Cm bs m W1 W2 v
  ·rw [h1 v c];exact ⟨(ho m).mpr (.inr cm),h1 m cm⟩
  ·rw [h2 v c];have k:=R.h.bb v (old v o c);exact ⟨(ho _).mpr (.inl k.1),(h2 _ fun z=>c (z.of k.2.symm)).trans k.2⟩
 ·have k:¬(O v=true\/Cm bs m W1 W2 v):=fun k=>by rw [(ho v).mpr k] at o;cases o
  rw [h2 v fun z=>k (.inr z)];exact R.h.ib v (Bool.eq_false_iff.mpr fun z=>k (.inl z))
 ·refine Bool.eq_false_iff.mpr fun k=>?_;have key:O b=true->bs b=b->False:=fun ob eb=>by
   have t:=R.h.tp b ob eb n
   rcases (ho _).mp k with k |k
   ·rw [t] at k;cases k
   ·refine ob8 (R.inn2 t k) ?_;intro u g e1 e2 J;have:u=b:=by rw [←e2,e1,(R.h.mt b ob n).1]
    subst this
    rcases g with g |g
    ·by_cases c:Cm bs m W1 W2 u
     ·exact R.s1.n u (zax g) (eb.trans (e.symm.trans (h1 u c)))
     ·exact c (.inr ⟨u,.inl (zax g),rfl⟩)
    ·by_cases c:Cm bs m W1 W2 u
     ·exact R.s2.n u (zax g) (eb.trans (e.symm.trans (h1 u c)))
     ·exact c (.inr ⟨u,.inr (zax g),rfl⟩)
  by_cases c:Cm bs m W1 W2 b
  ·have:b=m:=e.symm.trans (h1 b c);rw [this] at key;exact key R.mo.1 R.mo.2
  ·exact key (old b o c) ((h2 b c).symm.trans e)
end
section
variable {M bk bs:Int->Int} {O:Int->Bool} {r:Int}
theorem Bl.init:Bl M bk (fun v=>v) (fun v=>decide (v=r)) r:=by
 refine ⟨qaf rfl,fun v o n=>absurd (of_decide_eq_true o) n,fun v o n=>absurd (of_decide_eq_true o) n,fun v o=>?_,fun v o=>⟨o,rfl⟩,fun v J=>rfl,fun b o J n=>absurd (of_decide_eq_true o) n⟩;cases of_decide_eq_true o;exact ⟨[],[r],.nil,.root,qar.mpr ⟨qam,.nil⟩,fun x hx=>absurd hx qam,fun x hx n=>n⟩
theorem Bl.grow (h:Bl M bk bs O r) {p j:Int} (op:O p=true) (oj:O j=false) (ow:O (M j)=false) (mj:M (M j)=j) (jr:j≠r) (hn:M j≠j) :
  Bl M (fun x=>if x=j then p else bk x) bs (fun x=>O x||decide (x=M j)) r:=by
 have wr:M j≠r:=fun e=>by rw [e,h.rt] at ow;cases ow
 have nj:∀v,O v=true->v≠r->M v≠j:=fun v o n e=>by
  have:=(h.mt v o n).1;rw [e] at this;rw [this,o] at ow;cases ow
 have nw:∀v,O v=true->v≠r->M v≠M j:=fun v o n e=>by
  have:=(h.mt v o n).1;rw [e,mj] at this;rw [this,o] at oj;cases oj
 have odj:∀{v:Int} {L:List Int},Up M bk r v L->O v=true->∀y∈od L,y≠j/\y≠M j:=fun u o y hy=>by
  refine ob6 (u.odd hy) ?_;intro c hc n ee224;subst ee224;have oc:=h.evO u o c hc;exact ⟨nj c oc n,nw c oc n⟩
 have keep:∀{v:Int} {L:List Int},Up M bk r v L->O v=true->Up M (fun x=>if x=j then p else bk x) r v L:=fun u o=>u.congr fun y hy=>if_neg (odj u o y hy).1
 have out:∀{v:Int} {L:List Int},Up M bk r v L->O v=true->M j∉L/\j∉L:=fun u o=>by
  constructor
  ·intro k
   rcases zbV k with k |k
   ·rw [h.evO u o _ k] at ow;cases ow
   ·exact (odj u o _ k).2 rfl
  ·intro k
   rcases zbV k with k |k
   ·rw [h.evO u o _ k] at oj;cases oj
   ·exact (odj u o _ k).1 rfl
 have bsw:∀x,x≠M j->bs x≠M j:=fun x n e=>by
  cases ox:O x with
  |true=>have:=(h.bb x ox).1;rw [e,ow] at this;cases this
  |false=>exact n ((h.ib x ox).symm.trans e)
 have ho:∀x,(O x||decide (x=M j))=true↔O x=true\/x=M j:=fun x=>by rw [Bool.or_eq_true,qaq]
 refine ⟨(ho r).mpr (.inl h.rt),fun v o n=>?_,fun v o n=>?_,fun v o=>?_,fun v o=>?_,fun v o=>?_,fun b o e n=>?_⟩
 ·rcases (ho v).mp o with o |rfl
  ·exact h.mt v o n
  ·rw [mj];exact ⟨rfl,jr⟩
 ·refine (ho _).mpr (.inl ?_)
  rcases (ho v).mp o with o |rfl
  ·show O (if M v=j then p else bk (M v))=true
   rw [if_neg (nj v o n)];exact h.nx v o n
  ·show O (if M (M j)=j then p else bk (M (M j)))=true
   rw [if_pos mj];exact op
 ·rcases (ho v).mp o with o |rfl
  ·refine ob62 (h.up v o) ?_;intro A L w l nd hA hL;have ob:=(h.bb v o).1;refine ⟨A,L,w.congr fun y hy=>if_neg ?_,keep l ob,nd,fun x hx=>⟨(ho x).mpr (.inl (hA x hx).1),(hA x hx).2⟩,hL⟩;exact (odj (w.up l) o y (by rw [w.odA];exact qaw _ hy)).1
  ·refine ob17 (h.up p op) ?_;intro A L w l nd J;have u:=w.up l;rw [h.ib _ ow];have k:=out u op;refine ⟨[],M j::M (M j)::(A++L),.nil,.step wr ?_,?_,fun x hx=>absurd hx qam,fun x J n=>bsw x n⟩
   ·show Up M _ r (if M (M j)=j then p else bk (M (M j))) _
    rw [if_pos mj];exact keep u op
   ·rw [mj];refine qar.mpr ⟨fun z=>?_,qar.mpr ⟨k.2,nd⟩⟩
    rcases qad.mp z with z |z
    ·exact hn z
    ·exact k.1 z
 ·rcases (ho v).mp o with o |rfl
  ·exact ⟨(ho _).mpr (.inl (h.bb v o).1),(h.bb v o).2⟩
  ·rw [h.ib _ ow];exact ⟨o,h.ib _ ow⟩
 ·have k:¬(O v=true\/v=M j):=fun k=>by rw [(ho v).mpr k] at o;cases o
  exact h.ib v (Bool.eq_false_iff.mpr fun z=>k (.inl z))
 ·refine Bool.eq_false_iff.mpr fun k=>?_
  rcases (ho b).mp o with o |rfl
  ·rcases (ho _).mp k with k |k
   ·rw [h.tp b o e n] at k;cases k
   ·exact nw b o n k
  ·rw [mj] at k
   rcases (ho j).mp k with k |k
   ·rw [oj] at k;cases k
   ·exact hn k.symm
end
section
variable {M bk bs:Int->Int} {O:Int->Bool} {r:Int}
theorem Up.firstE (p:Int->Prop) {v:Int} {L:List Int} (h:Up M bk r v L):(∃a∈ev L,p a)->∃W x X,L=W++X/\Wk M bk r v W x/\Up M bk r x X/\p x/\∀y∈ev W,¬p y:=by
 induction h with
 |root=>
  intro zz44;refine ob1 zz44 ?_;clear zz44;intro a ha pa;exact ⟨[],r,[r],rfl,.nil,.root,qah.mp ha▸pa,fun y hy=>absurd hy qam⟩
 | @step v L n u ih=>
  intro zz45;refine ob1 zz45 ?_;clear zz45;intro a ha pa
  by_cases pv:p v
  ·exact ⟨[],v,_,rfl,.nil,.step n u,pv,fun y hy=>absurd hy qam⟩
  ·rcases qad.mp ha with rfl |ha
   ·exact absurd pa pv
   ·refine ob5 (ih ⟨a,ha,pa⟩) ?_;intro W x X e w k l o;exact ⟨v::M v::W,x,X,by rw [e];rfl,.cons n w,k,l,fun y hy=>(qad.mp hy).elim (fun z=>z▸pv) (o y)⟩
structure Seen (M bk bs:Int->Int) (r one:Int) (seen:List Int):Prop where
 all:∀{L:List Int},Up M bk r one L->∀y∈ev L,bs y∈seen
 on:∀b∈seen,bs b=b/\∀{L:List Int},Up M bk r one L->b∈ev L
structure Met (M bk bs:Int->Int) (O:Int->Bool) (r other:Int) (seen W:List Int) (x:Int) (X:List Int):Prop where
 w:Wk M bk r other W x
 u:Up M bk r x X
 n:∀y∈W,bs y∉seen
theorem Bl.upL (h:Bl M bk bs O r) {v:Int} (o:O v=true):∃L,Up M bk r v L:=by
 refine ob2 (h.up v o) ?_;intro A L w l J;exact ⟨_,w.up l⟩
theorem Bl.sides (h:Bl M bk bs O r) {one other x2:Int} {seen W2 X2:List Int} (o1:O one=true) (o2:O other=true) (s:Seen M bk bs r one seen) (t:Met M bk bs O r other seen W2 x2 X2) (e:bs x2∈seen) :
  ∃W1 x1 X1,Side M bk bs O r one (bs x2) W1 x1 X1/\Side M bk bs O r other (bs x2) W2 x2 X2/\∀y∈W1,∀z∈W2,bs y≠bs z:=by
 refine ob14 (h.upL o1) ?_;intro L u;have sO:∀b∈seen,O b=true:=fun b hb=>h.evO u o1 b ((s.on b hb).2 u);refine ob5 (u.firstE (fun y=>bs y=bs x2) ⟨bs x2,(s.on _ e).2 u,(s.on _ e).1⟩) ?_;intro W1 x1 X1 eL w1 u1 p1 f1;have evO:∀y∈ev W1,O y=true/\bs y∈seen:=fun y hy=>by
  have:y∈ev L:=by rw [eL,w1.evA];exact qaw _ hy
  exact ⟨h.evO u o1 y this,s.all u y this⟩
 have odd:∀y∈W1,O y=true->∃u∈ev W1,bs y=bs u:=fun y hy o=>by
  rcases zbV hy with k |k
  ·exact ⟨y,k,rfl⟩
  ·refine ob6 (w1.odd k) ?_;intro c hc nc ee225;subst ee225;exact ⟨c,hc,h.same (evO c hc).1 nc o⟩
 refine ⟨W1,x1,X1,⟨o1,w1,u1,p1,fun y hy ee=>?_⟩,⟨o2,t.w,t.u,rfl,fun y hy ee=>t.n y hy (ee▸e)⟩,fun y hy z hz ee=>?_⟩
 ·cases oy:O y with
  |true=>
   refine ob1 (odd y hy oy) ?_;intro c hc k;exact f1 c hc (k.symm.trans ee)
  |false=>rw [h.ib y oy] at ee;rw [ee,sO _ e] at oy;cases oy
 ·cases oy:O y with
  |true=>
   refine ob1 (odd y hy oy) ?_;intro c hc k;exact t.n z hz (ee▸k▸(evO c hc).2)
  |false=>
   have oz:O z=false:=by
    cases oz:O z with
    |false=>rfl
    |true=>have:=(h.bb z oz).1;rw [←ee,h.ib y oy,oy] at this;cases this
   rw [h.ib y oy,h.ib z oz] at ee;subst ee
   rcases zbV hy with k |k
   ·rw [(evO y k).1] at oy;cases oy
   refine ob6 (w1.odd k) ?_;intro c hc nc e1
   rcases zbV hz with l |l
   ·rw [h.evO (t.w.up t.u) o2 y (by rw [t.w.evA];exact qaw _ l)] at oy;cases oy
   refine ob6 (t.w.odd l) ?_;intro d hd nd e2;have od2:=h.evO (t.w.up t.u) o2 d (by rw [t.w.evA];exact qaw _ hd)
   have:c=d:=by rw [←(h.mt c (evO c hc).1 nc).1,e1,←e2,(h.mt d od2 nd).1]
   exact t.n d (zax hd) (this▸(evO c hc).2)
theorem Bl.next (h:Bl M bk bs O r) {b:Int} (o:O b=true) (n:b≠r):O (bs (bk (M b)))=true/\bs (bs (bk (M b)))=bs (bk (M b)):=h.bb _ (h.nx b o n)
theorem Met.next (h:Bl M bk bs O r) {other x:Int} {seen W X:List Int} (o2:O other=true) (t:Met M bk bs O r other seen W x X) (sO:∀b∈seen,O b=true) (k:bs x∉seen) (n:bs x≠r) :
  ∃W' X',Met M bk bs O r other seen W' (bk (M (bs x))) X'/\X'.length<X.length:=by
 have ox:O x=true:=h.evO (t.w.up t.u) o2 x (by rw [t.w.evA];exact qap _ t.u.head)
 have hb:=h.bb x ox;refine ob62 (h.up x ox) ?_;intro A L w l J hA J;have eX:=t.u.uniq (w.up l);generalize bs x=b at *;cases l with
 |root=>exact absurd rfl n
 | @step _ L' _ l'=>
  refine ⟨W++(A++[b,M b]),L',⟨t.w.trans (w.trans (.cons n .nil)),l',fun y hy=>?_⟩,?_⟩
  ·rcases qao.mp hy with hy |hy
   ·exact t.n y hy
   rcases qao.mp hy with hy |hy
   ·rw [(hA y hy).2];exact k
   rcases qad.mp hy with rfl |hy
   ·rw [hb.2];exact k
   ·rw [qah.mp hy];have:=h.tp b hb.1 hb.2 n;rw [h.ib _ this];exact fun z=>by rw [sO _ z] at this;cases this
  ·rw [eX,qat,List.length_cons,List.length_cons];lia
end
section
variable {M bk bs:Int->Int} {O:Int->Bool} {r:Int}
structure Sn (M bk bs:Int->Int) (r one:Int) (seen P:List Int) (b:Int) (X:List Int):Prop where
 w:Wk M bk r one P b
 u:Up M bk r b X
 bb:bs b=b
 i:b∈seen
 all:∀y∈ev P,bs y∈seen
 on:∀c∈seen,bs c=c/\∀{L:List Int},Up M bk r one L->c∈ev L
variable {one:Int}
theorem Sn.init (h:Bl M bk bs O r) (o:O one=true):∃P X,Sn M bk bs r one [bs one] P (bs one) X:=by
 refine ob62 (h.up one o) ?_;intro A L w l J hA J;refine ⟨A,L,w,l,(h.bb one o).2,qah.mpr rfl,fun y hy=>qah.mpr (hA y (zax hy)).2,fun c hc=>?_⟩;cases qah.mp hc;exact ⟨(h.bb one o).2,fun u=>by rw [u.uniq (w.up l),w.evA];exact qap _ l.head⟩
variable {seen:List Int}
theorem Sn.next (h:Bl M bk bs O r) {b:Int} {seen' P X:List Int} (o:O one=true) (s:Sn M bk bs r one seen P b X) (n:b≠r) (hs:∀c,c∈seen'↔c∈seen\/c=bs (bk (M b))) :
  ∃P' X',Sn M bk bs r one seen' P' (bs (bk (M b))) X'/\X'.length<X.length:=by
 have ob:O b=true:=h.evO (s.w.up s.u) o b (by rw [s.w.evA];exact qap _ s.u.head)
 have ox:=h.nx b ob n;have u:=s.u;cases u with
 |root=>exact absurd rfl n
 | @step _ X0 _ x=>
  refine ob62 (h.up _ ox) ?_;intro A L w l J hA J;have hb:=h.bb _ ox;generalize bs (bk (M b))=c at *;have e:=x.uniq (w.up l);have w':Wk M bk r one (P++(b::M b::A)) c:=s.w.trans (.cons n w);refine ⟨P++(b::M b::A),L,⟨w',l,hb.2,(hs c).mpr (.inr rfl),fun y hy=>?_,fun d hd=>?_⟩,?_⟩
  ·rw [s.w.evA] at hy
   rcases qao.mp hy with hy |hy
   ·exact (hs _).mpr (.inl (s.all y hy))
   rcases qad.mp hy with rfl |hy
   ·rw [s.bb];exact (hs _).mpr (.inl s.i)
   ·rw [(hA y (zax hy)).2];exact (hs _).mpr (.inr rfl)
  ·rcases (hs d).mp hd with hd |rfl
   ·exact s.on d hd
   ·exact ⟨hb.2,fun u=>by rw [u.uniq (w'.up l),w'.evA];exact qap _ l.head⟩
  ·rw [e,List.length_cons,List.length_cons,qat];lia
theorem Sn.end {P X:List Int} (s:Sn M bk bs r one seen P r X):Seen M bk bs r one seen:=by
 have u:=s.u;cases u with
 |step n _=>exact absurd rfl n
 |root=>
  refine ⟨fun u y hy=>?_,s.on⟩;rw [u.uniq (s.w.up .root),s.w.evA] at hy
  rcases qao.mp hy with hy |hy
  ·exact s.all y hy
  ·rw [qah.mp hy,s.bb];exact s.i
theorem Seen.root {L:List Int} (s:Seen M bk bs r one seen) (u:Up M bk r one L) (b:bs r=r):r∈seen:=b▸s.all u r u.end
structure Mk (M bk bs:Int->Int) (r v c0:Int) (x:Int) (W0 ring0:List Int) (D W:List Int) (p c:Int) (f:Int->Int) (ring:List Int):Prop where
 e:W0=D++W
 d:Wk M bk r v D p
 w:Wk M bk r p W x
 k:∀y,mkb f c W y=mkb bk c0 W0 y
 o:∀y,y∉ev D->f y=bk y
 g:∀b,b∈ring↔b∈ring0\/∃y∈D,bs y=b
variable {W0 ring0:List Int}
theorem Mk.init {v c0 x:Int} (w:Wk M bk r v W0 x):Mk M bk bs r v c0 x W0 ring0 [] W0 v c0 bk ring0:=
 ⟨rfl,.nil,w,fun J=>rfl,fun J J=>rfl,fun b=>⟨.inl,fun z=>z.elim id fun ⟨y,hy,_⟩=>absurd hy qam⟩⟩
theorem Mk.next {v c0 x p c:Int} {D W ring ring':List Int} {f:Int->Int} (m:Mk M bk bs r v c0 x W0 ring0 D W p c f ring) (nd:W0.Nodup) (n:p≠x) (hr:∀b,b∈ring'↔b∈ring\/b=bs p\/b=bs (M p)) :
  ∃D' W',Mk M bk bs r v c0 x W0 ring0 D' W' (f (M p)) (M p) (fun y=>if y=p then c else f y) ring'/\W'.length<W.length/\f (M p)=bk (M p)/\(if M p=p then c else f (M p))=f (M p)/\p∈ev W0:=by
 have w:=m.w;cases w with
 |nil=>exact absurd rfl n
 | @cons _ _ W n0 w'=>
  have nd':=nd;rw [m.e] at nd';have n2:=List.nodup_append.mp nd';have np:=qar.mp n2.2.1;have mp:M p∉ev D:=fun z=>n2.2.2 _ (zax z) _ (qag _ qaj) rfl;have ef:f (M p)=bk (M p):=m.o _ mp;have nmp:M p≠p:=fun z=>np.1 (qad.mpr (.inl z.symm));have d':Wk M bk r v (D++[p,M p]) (bk (M p)):=m.d.trans (.cons n0 .nil);refine ⟨D++[p,M p],W,⟨by rw [m.e,List.append_assoc];rfl,ef▸d',ef▸w',fun y=>m.k y,fun y hy=>?_,fun b=>?_⟩,by rw [List.length_cons,List.length_cons];lia,ef,if_neg nmp,?_⟩
  ·rw [m.d.evA] at hy;have h1:y∉ev D:=fun z=>hy (qaw _ z);have h2:y≠p:=fun z=>hy (qap _ (z▸qaj));show (if y=p then c else f y)=_
   rw [if_neg h2];exact m.o y h1
  ·rw [hr b,m.g b]
   constructor
   ·rintro ((z |⟨y,hy,z⟩) |z |z)
    ·exact .inl z
    ·exact .inr ⟨y,qaw _ hy,z⟩
    ·exact .inr ⟨p,qap _ qaj,z.symm⟩
    ·exact .inr ⟨M p,qap _ (qag _ qaj),z.symm⟩
   ·rintro (z |⟨y,hy,z⟩)
    ·exact .inl (.inl z)
    rcases qao.mp hy with hy |hy
    ·exact .inl (.inr ⟨y,hy,z⟩)
    rcases qad.mp hy with rfl |hy
    ·exact .inr (.inl z.symm)
    ·exact .inr (.inr (qah.mp hy▸z.symm))
  ·rw [m.e,m.d.evA];exact qap _ qaj
theorem Mk.end {v c0 x c:Int} {D W ring:List Int} {f:Int->Int} (m:Mk M bk bs r v c0 x W0 ring0 D W x c f ring) (hn:x∉W0):(∀y,f y=mkb bk c0 W0 y)/\∀b,b∈ring↔b∈ring0\/∃y∈W0,bs y=b:=by
 have w:=m.w
 rcases w.hd with _ |z
 ·cases w with
  |nil => 
   have e:=m.e;rw [List.append_nil] at e;exact ⟨m.k,by rw [e];exact m.g⟩
  |cons _ _=>exact absurd (by rw [m.e];exact qap _ qaj) hn
 ·exact absurd (by rw [m.e];exact qap _ (zax z)) hn
end
theorem znE (n:l.Nodup):∀{k:List Int},(∀x∈l,x∈k)->l.length<=k.length:=by
 induction l with
 |nil=>intro k J;exact Nat.zero_le _
 |cons a l ih=>
  intro k h;have na:=qar.mp n;have ha:=h a qaj;have:=ih na.2 (k:=k.erase a) fun x hx=>(List.mem_erase_of_ne fun (e:x=a)=>na.1 (e▸hx)).mpr (h x (qag _ hx));rw [List.length_erase_of_mem ha] at this;have:=List.length_pos_of_mem ha;rw [List.length_cons];lia
theorem zdL {f:Int->Int}:∀(n:Nat) {l:List Int},l.length<=n->l.Nodup->(∀x∈l,f x∈l/\f (f x)=x/\f x≠x)->l.length%2=0
 | 0,l,h,_,_=>by rw [Nat.le_zero.mp h]
 |n+1,[],_,_,_=>rfl
 |n+1,a::l,h,nd,hf=>by
  have na:=qar.mp nd;refine ob19 (hf a qaj) ?_;intro fa ffa ne;have fl:f a∈l:=(qad.mp fa).resolve_left ne;have le:=List.length_erase_of_mem fl;have pos:=List.length_pos_of_mem fl;rw [List.length_cons] at h ⊢;have:=zdL n (l:=l.erase (f a)) (by lia) (na.2.erase _) fun x hx=>by
   have xl:=List.mem_of_mem_erase hx;have xn:x≠f a:=fun e=>(e▸na.2.not_mem_erase:x∉l.erase (f a)) hx;have xa:x≠a:=fun e=>na.1 (e▸xl);refine ob19 (hf x (qag _ xl)) ?_;intro k1 k2 k3;have h1:f x≠a:=fun e=>xn (by rw [←k2,e])
   have h2:f x≠f a:=fun e=>xa (by rw [←k2,e,ffa])
   exact ⟨(List.mem_erase_of_ne h2).mpr ((qad.mp k1).resolve_left h1),k2,k3⟩
  lia
section
variable {M bk bs:Int->Int} {O:Int->Bool} {r:Int}
theorem Bl.bsr (h:Bl M bk bs O r):bs r=r:=by
 refine ob22 (h.up r h.rt) ?_;intro A L w J;generalize bs r=b at *;cases w with
 |nil=>rfl
 |cons n _=>exact absurd rfl n
theorem Bl.low (h:Bl M bk bs O r) {x:Int} (o:O x=true) (n:bs x≠x):O (M x)=true/\bs (M x)=bs x/\x≠r:=by
 have nr:x≠r:=fun e=>n (e▸h.bsr);refine ob62 (h.up x o) ?_;intro A L w J J hA J;generalize bs x=b at *;cases w with
 |nil=>exact absurd rfl n
 |cons _ _=>exact ⟨(hA _ (qag _ qaj)).1,(hA _ (qag _ qaj)).2,nr⟩
theorem Bl.hung (h:Bl M bk bs O r) {N:Int->Int} {dn:List Int} {I:Int->Prop} (nd:dn.Nodup) (hd:∀v,O v=true↔v∈dn) (hI:∀x,I x->O x=false/\O (M x)=true/\M (M x)=x/\M x≠r)
  (hM:∀v,O v=true->v≠r->M v≠v) (edge:∀v,O v=true->bs v=bs (N v)\/I (N v)) (hN:∀v,O v=true->N (N v)=v/\N v≠v):False:=by
 -- a blossom has a place that N pairs with an inner one
 have ex:∀b,O b=true->bs b=b->∃x,O x=true/\bs x=b/\I (N x):=fun b ob eb=>Classical.byContradiction fun no=>by
  have mem:∀x,x∈dn.filter (fun v=>decide (bs v=b))↔O x=true/\bs x=b:=fun x=>by rw [List.mem_filter,←hd x,qaq]
  have nf:(dn.filter (fun v=>decide (bs v=b))).Nodup:=nd.sublist List.filter_sublist;generalize dn.filter (fun v=>decide (bs v=b))=l at *;have e1:=zdL (f:=N) l.length (qal _) nf fun x hx=>by
   have k:=(mem x).mp hx;have j:bs (N x)=b:=((edge x k.1).resolve_right fun z=>no ⟨x,k.1,k.2,z⟩).symm.trans k.2;have on:O (N x)=true:=by
    cases on:O (N x) with
    |true=>rfl
    |false=>rw [h.ib _ on] at j;rw [j,ob] at on;cases on
   exact ⟨(mem _).mpr ⟨on,j⟩,hN x k.1⟩
  have bl:b∈l:=(mem b).mpr ⟨ob,eb⟩;have e2:=zdL (f:=M) (l.erase b).length (qal _) (nf.erase _) fun x hx=>by
   have k:=(mem x).mp (List.mem_of_mem_erase hx);have xb:x≠b:=fun e=>(e▸nf.not_mem_erase:x∉l.erase b) hx;refine ob19 (h.low k.1 (fun e=>xb (e.symm.trans k.2))) ?_;intro k1 k2 k3;have m:=h.mt x k.1 k3;refine ⟨(List.mem_erase_of_ne fun e=>?_).mpr ((mem _).mpr ⟨k1,k2.trans k.2⟩),m.1,hM x k.1 k3⟩;have t:=h.tp b ob eb (e▸m.2);rw [←e,m.1,k.1] at t;cases t
  rw [List.length_erase_of_mem bl] at e2;have:=List.length_pos_of_mem bl
  lia
 have ex':∀b,∃x,O b=true->bs b=b->O x=true/\bs x=b/\I (N x):=fun b=>by
  by_cases k:O b=true/\bs b=b
  ·refine ob14 (ex b k.1 k.2) ?_;intro x hx;exact ⟨x,fun J J=>hx⟩
  ·exact ⟨0,fun a b=>absurd ⟨a,b⟩ k⟩
 let g:Int->Int:=fun b=>Classical.choose (ex' b)
 have hg:∀b,O b=true->bs b=b->O (g b)=true/\bs (g b)=b/\I (N (g b)):=fun b=>Classical.choose_spec (ex' b);have mem:∀b,b∈dn.filter (fun v=>decide (bs v=v))↔O b=true/\bs b=b:=fun x=>by rw [List.mem_filter,←hd x,qaq]
 have nf:(dn.filter (fun v=>decide (bs v=v))).Nodup:=nd.sublist List.filter_sublist;generalize dn.filter (fun v=>decide (bs v=v))=l at *;have rl:r∈l:=(mem r).mpr ⟨h.rt,h.bsr⟩;have inj:∀a∈l,∀b∈l,M (N (g a))=M (N (g b))->a=b:=fun a ha b hb e=>by
  have ka:=hg a ((mem a).mp ha).1 ((mem a).mp ha).2;have kb:=hg b ((mem b).mp hb).1 ((mem b).mp hb).2;have e1:N (g a)=N (g b):=by rw [←(hI _ ka.2.2).2.2.1,e,(hI _ kb.2.2).2.2.1]
  have e2:g a=g b:=by rw [←(hN _ ka.1).1,e1,(hN _ kb.1).1]
  rw [←ka.2.1,e2,kb.2.1]
 have nm:(l.map fun b=>M (N (g b))).Nodup:=List.pairwise_map.mpr (List.Pairwise.imp_of_mem (fun ha hb n e=>n (inj _ ha _ hb e)) nf);have:=znE nm (k:=l.erase r) fun y hy=>by
  refine ob1 (List.mem_map.mp hy) ?_;intro b hb ee226;subst ee226;have k:=hg b ((mem b).mp hb).1 ((mem b).mp hb).2;have i:=hI _ k.2.2;have bs':bs (M (N (g b)))=M (N (g b)):=Classical.byContradiction fun z=>by
   have:=(h.low i.2.1 z).1;rw [i.2.2.1,i.1] at this;cases this
  exact (List.mem_erase_of_ne i.2.2.2).mpr ((mem _).mpr ⟨i.2.1,bs'⟩)
 rw [qac,List.length_erase_of_mem rl] at this;have:=List.length_pos_of_mem rl
 lia
end
noncomputable def cnt (p:Int->Bool) (n:Nat):Nat:=(List.range n).countP fun i:Nat=>p (i:Int)
variable {p:Int->Bool}
theorem zcE {n:Nat}:cnt p (n+1)=cnt p n+(if p n then 1 else 0):=by
 unfold cnt;rw [List.range_succ,List.countP_append,List.countP_singleton]
theorem zgr {p q:Int->Bool}:∀{n:Nat},(∀i:Int,0<=i->i<n->p i=q i)->cnt p n=cnt q n
 | 0,_=>rfl
 |n+1,h=>by rw [zcE,zcE,zgr fun i h0 h1=>h i h0 (by lia),h n (by lia) (by lia)]
theorem zgq {p q:Int->Bool}:∀{n:Nat},(∀i:Int,0<=i->i<n->p i=true->q i=true)->cnt p n<=cnt q n
 | 0,_=>qal _
 |n+1,h=>by
  rw [zcE,zcE];have:=zgq (n:=n) fun i h0 h1=>h i h0 (by lia)
  have k:=h n (by lia) (by lia)
  cases e:p n with
  |false=>rw [if_neg qan];lia
  |true=>rw [k e,if_pos rfl];lia
theorem zdn {p q:Int->Bool} {x:Int}:∀{n:Nat},0<=x->x<n->p x=false->q x=true->(∀i,i≠x->q i=p i)->cnt q n=cnt p n+1
 | 0,h0,h1,_,_,_=>by lia
 |n+1,h0,h1,hp,hq,h=>by
  rw [zcE,zcE]
  by_cases e:x=n
  ·subst e;rw [hp,hq,if_pos rfl,if_neg qan,zgr fun i J hi=>h i (by lia)]
  ·rw [zdn h0 (by lia) hp hq h,h n (fun z=>e z.symm)];lia
variable {q:Int->Bool}
theorem zmU {x:Int} (h:∀i:Int,0<=i->i<n->p i=true->q i=true) (h0:0<=x) (h1:x<n) (hp:p x=false) (hq:q x=true):cnt p n<cnt q n:=by
 have e:=zdn (p:=p) (q:=fun i=>if i=x then true else p i) h0 h1 hp (if_pos rfl) fun i hi=>if_neg hi
 have:=zgq (p:=fun i=>if i=x then true else p i) (q:=q) (n:=n) fun i i0 i1 k=>by
  by_cases c:i=x
  ·rw [c];exact hq
  ·exact h i i0 i1 ((if_neg c).symm.trans k)
 lia
theorem zfp {z:Int} (x0:0<=x) (x1:x<n) (z0:0<=z) (z1:z<n) (xz:x≠z) (px:p x=false) (qx:q x=true) (pz:p z=true) (qz:q z=false) (h:∀i,i≠x->i≠z->q i=p i):cnt q n=cnt p n:=by
 have e1:=zdn (p:=p) (q:=fun i=>if i=x then true else p i) x0 x1 px (if_pos rfl) fun i hi=>if_neg hi
 have e2:=zdn (p:=q) (q:=fun i=>if i=x then true else p i) z0 z1 qz ((if_neg (Ne.symm xz)).trans pz) fun i hi=>by
  by_cases c:i=x
  ·rw [c,qx];exact if_pos rfl
  ·rw [h i c hi];exact if_neg c
 lia
theorem zpq (h:cnt p n<cnt q n):∃i:Int,0<=i/\i<n/\q i=true/\p i=false:=Classical.byContradiction fun no=>by
 have:=zgq (p:=q) (q:=p) (n:=n) fun i h0 h1 hq=>by
  cases e:p i with
  |true=>rfl
  |false=>exact absurd ⟨i,h0,h1,hq,e⟩ no
 lia
def Mg (n:Nat) (E:Int->Int->Prop) (M:Int->Int):Prop:=∀i,0<=M i->(0<=i/\i<n)/\M (M i)=i/\E i (M i)
section
variable {n:Nat} {E:Int->Int->Prop} {M:Int->Int}
noncomputable def cov (N:Int->Int) (n:Nat):Nat:=cnt (fun i=>decide (0<=N i)) n
theorem Mg.put {N N1:Int->Int} {x y z:Int} (hN:Mg n E N) (rx:0<=x/\x<n) (ry:0<=y/\y<n) (e1:E x y) (e2:E y x) (v1:N1 x=y) (v2:N1 y=x) (v3:z=x\/N1 z<0) (v4:∀i,i≠x->i≠y->i≠z->N1 i=N i)
  (h:∀i,0<=N i->i≠x->i≠y->i≠z->N i≠x/\N i≠y/\N i≠z):Mg n E N1:=fun i hi=>by
 by_cases i1:i=x
 ·subst i1;rw [v1,v2];exact ⟨rx,rfl,e1⟩
 by_cases i2:i=y
 ·subst i2;rw [v2,v1];exact ⟨ry,rfl,e2⟩
 by_cases i3:i=z
 ·subst i3;rcases v3 with v3 |v3
  ·exact absurd v3 i1
  ·lia
 ·rw [v4 i i1 i2 i3] at hi ⊢;refine ob19 (hN i hi) ?_;intro a b c;refine ob19 (h i hi i1 i2 i3) ?_;intro j1 j2 j3;rw [v4 _ j1 j2 j3];exact ⟨a,b,c⟩
end
section
variable {n:Int} {E:Int->Int->Prop} {M bk bs:Int->Int} {O:Int->Bool} {r:Int} {dn q:List Int}
def Gr (n:Int) (E:Int->Int->Prop):Prop:=∀i j,E i j->E j i/\i≠j/\0<=i/\i<n
structure Sg (n:Int) (E:Int->Int->Prop) (M bk bs:Int->Int) (O:Int->Bool) (r:Int) (dn q:List Int):Prop where
 bl:Bl M bk bs O r
 gr:Gr n E
 mt:∀i,0<=M i->M (M i)=i/\E i (M i)
 rr:(0<=r/\r<n)/\M r<0
 lab:∀v,O v=true->v≠r->0<=M v/\0<=bk (M v)
 adj:∀x,0<=bk x->E x (bk x)
 inn:∀x,0<=bk x->O x=false->0<=M x/\O (M x)=true
 que:∀v,O v=true↔v∈dn++q
 nod:(dn++q).Nodup
 mkd:∀w,O w=true->0<=bk w->O (M w)=true
def Lk (bk bs:Int->Int) (O:Int->Bool) (q:List Int) (p j:Int):Prop:=bs p=bs j\/(O j=false/\0<=bk j)\/j∈q
theorem Sg.rng (g:Sg n E M bk bs O r dn q) {v:Int} (o:O v=true):0<=v/\v<n:=by
 by_cases e:v=r
 ·rw [e];exact g.rr.1
 ·have:=g.gr _ _ (g.mt v (g.lab v o e).1).2;exact this.2.2
theorem Sg.bsr (g:Sg n E M bk bs O r dn q) {v:Int} (h:0<=v/\v<n):0<=bs v/\bs v<n:=by
 cases o:O v with
 |true=>exact g.rng (g.bl.bb v o).1
 |false=>rw [g.bl.ib v o];exact h
variable {j:Int}
theorem Sg.fresh (g:Sg n E M bk bs O r dn q) (jr:j≠r) (h:¬(0<=M j/\0<=bk (M j))):O j=false:=by
 cases o:O j with
 |false=>rfl
 |true=>exact absurd (g.lab j o jr) h
theorem Sg.freshM (g:Sg n E M bk bs O r dn q) (b:bk j<0) (m:0<=M j):O (M j)=false:=by
 cases o:O (M j) with
 |false=>rfl
 |true=>
  have k:=g.mt j m;have nr:M j≠r:=fun e=>by
   have h1:=g.rr.2;rw [←e,k.1] at h1;have:=(g.gr _ _ k.2).2.2.1;lia
  have:=(g.lab _ o nr).2;rw [k.1] at this;lia
theorem Sg.grow (g:Sg n E M bk bs O r dn q) {p:Int} (op:O p=true) (e:E p j) (oj:O j=false) (b:bk j<0) (m:0<=M j) (jr:j≠r) (bm:bk (M j)<0) :
  Sg n E M (fun x=>if x=j then p else bk x) bs (fun x=>O x||decide (x=M j)) r dn (q++[M j]):=by
 have ow:=g.freshM b m;have k:=g.mt j m;have rj:=(g.gr _ _ k.2);have ho:∀x,(O x||decide (x=M j))=true↔O x=true\/x=M j:=fun x=>by rw [Bool.or_eq_true,qaq]
 refine ⟨g.bl.grow op oj ow k.1 jr (Ne.symm rj.2.1),g.gr,g.mt,g.rr,fun v o n=>?_,fun x hx=>?_,fun x hx o=>?_,fun v=>?_,?_,fun w o hw=>(ho _).mpr ?_⟩
 ·rcases (ho v).mp o with o |rfl
  ·have h:=g.lab v o n;refine ⟨h.1,?_⟩;show 0<=if M v=j then p else bk (M v)
   by_cases c:M v=j
   ·rw [if_pos c];exact (g.rng op).1
   ·rw [if_neg c];exact h.2
  ·rw [k.1];refine ⟨rj.2.2.1,?_⟩;show 0<=if j=j then p else bk j
   rw [if_pos rfl];exact (g.rng op).1
 ·by_cases c:x=j
  ·rw [c];show E j (if j=j then p else bk j)
   rw [if_pos rfl];exact (g.gr _ _ e).1
  ·have c':(if x=j then p else bk x)=bk x:=if_neg c
   show E x (if x=j then p else bk x)
   rw [c'];exact g.adj x (c'▸hx)
 ·have no:¬(O x=true\/x=M j):=fun z=>by rw [(ho x).mpr z] at o;cases o
  by_cases c:x=j
  ·rw [c];exact ⟨m,(ho _).mpr (.inr rfl)⟩
  ·have c':(if x=j then p else bk x)=bk x:=if_neg c
   have h:=g.inn x (c'▸hx) (Bool.eq_false_iff.mpr fun z=>no (.inl z));exact ⟨h.1,(ho _).mpr (.inl h.2)⟩
 ·rw [ho v,g.que v,←List.append_assoc,qao (s:=dn++q),qah]
 ·rw [←List.append_assoc];refine List.nodup_append.mpr ⟨g.nod,qar.mpr ⟨qam,.nil⟩,fun a ha c hc e=>?_⟩;rw [qah.mp hc] at e;rw [←e,(g.que a).mpr ha] at ow;cases ow
 ·rcases (ho w).mp o with o |rfl
  ·have c:(if w=j then p else bk w)=bk w:=if_neg fun z=>by rw [z,oj] at o;cases o
   exact .inl (g.mkd w o (c▸hw))
  ·have c:(if M j=j then p else bk (M j))=bk (M j):=if_neg (Ne.symm rj.2.1)
   have:0<=bk (M j):=c▸hw
   lia
theorem Lk.grow {p x y:Int} (h:Lk bk bs O q x y) (hp:0<=p):Lk (fun x=>if x=j then p else bk x) bs (fun x=>O x||decide (x=M j)) (q++[M j]) x y:=by
 rcases h with h |⟨o,b⟩ |h
 ·exact .inl h
 ·by_cases c:y=M j
  ·exact .inr (.inr (qap _ (qah.mpr c)))
  ·refine .inr (.inl ⟨by show (O y||decide (y=M j))=false;rw [o,qai c];rfl,?_⟩)
   show 0<=if y=j then p else bk y
   by_cases d:y=j
   ·rw [if_pos d];exact hp
   ·rw [if_neg d];exact b
 ·exact .inr (.inr (qaw _ h))
theorem Sg.dead (g:Sg n E M bk bs O r dn []) (lk:∀p∈dn,∀j,E p j->Lk bk bs O [] p j) {N:Int->Int} (hN:∀i,0<=N i->N (N i)=i/\E i (N i)) (hc:∀i,0<=M i->0<=N i) (hr:0<=N r):False:=by
 have cov:∀v,O v=true->0<=N v:=fun v o=>by
  by_cases e:v=r
  ·rw [e];exact hr
  ·exact hc v (g.lab v o e).1
 refine g.bl.hung (N:=N) (dn:=dn) (I:=fun x=>O x=false/\0<=bk x) (List.append_nil dn▸g.nod) (fun v=>by rw [g.que v,List.append_nil]) (fun x hx=>?_) (fun v o n=>?_) (fun v o=>?_) fun v o=>?_
 ·have h:=g.inn x hx.2 hx.1;have k:=g.mt x h.1;refine ⟨hx.1,h.2,k.1,fun e=>?_⟩;have:=g.rr.2;rw [←e,k.1] at this;have:=(g.gr _ _ k.2).2.2.1;lia
 ·exact Ne.symm (g.gr _ _ (g.mt v (g.lab v o n).1).2).2.1
 ·rcases lk v (by have:=(g.que v).mp o;rwa [List.append_nil] at this) _ (hN v (cov v o)).2 with h |h |h
  ·exact .inl h
  ·exact .inr h
  ·exact absurd h qam
 ·have h:=hN v (cov v o);exact ⟨h.1,Ne.symm (g.gr _ _ h.2).2.1⟩
end
section
variable {n:Int} {E:Int->Int->Prop} {M bk bs B bs':Int->Int} {O O':Int->Bool} {r one other m x1 x2:Int} {W1 W2 X1 X2 dn q nw:List Int}
theorem Wk.mkb {v x:Int} {W:List Int} (h:Wk M bk r v W x):∀{f:Int->Int} {c:Int},W.Nodup->∀y∈ev W,(y=v/\mkb f c W y=c)\/∃u∈ev W,mkb f c W y=M u/\bk (M u)=y:=by
 induction h with
 |nil=>intro f c J y hy;exact absurd hy qam
 | @cons v x W n w ih=>
  intro f c nd y hy;have n1:=qar.mp nd
  rcases qad.mp hy with rfl |hy
  ·refine .inl ⟨rfl,?_⟩;show Mine.Internal.mkb _ (M y) W y=c;rw [zcO fun z=>n1.1 (qag _ (zax z))];exact if_pos rfl
  ·refine .inr ?_
   rcases ih (f:=fun x=>if x=v then c else f x) (c:=M v) (qar.mp n1.2).2 y hy with ⟨e,k⟩ |⟨u,hu,k⟩
   ·exact ⟨v,qaj,k,e.symm⟩
   ·exact ⟨u,qag _ hu,k⟩
theorem Rng.eb (R:Rng M bk bs B O r one other m x1 x2 W1 W2 X1 X2) (g:Sg n E M bk bs O r dn q) (e:E one other) {y:Int} (hy:y∈ev W1):E y (B y):=by
 refine ob14 R.f1 ?_;intro f hf;rw [hf y hy]
 rcases R.s1.w.mkb (f:=f) (c:=other) (List.nodup_append.mp (R.s1.nd R.h)).1 y hy with ⟨e1,k⟩ |⟨u,hu,k,l⟩
 ·rw [k,e1];exact e
 ·rw [k];have:=g.adj (M u) (g.lab u (R.s1.evo R.h hu) (R.s1.w.next hu).1).2;rw [l] at this;exact (g.gr _ _ this).1
theorem Rng.c1 (R:Rng M bk bs B O r one other m x1 x2 W1 W2 X1 X2):Cm bs m W1 W2 one:=by
 rcases R.s1.w.hd with e |h
 ·exact .inl (e▸R.s1.b)
 ·exact .inr ⟨one,.inl (zax h),rfl⟩
structure Shr (bs bs':Int->Int) (O O':Int->Bool) (m:Int) (W1 W2 nw:List Int):Prop where
 h1:∀x,Cm bs m W1 W2 x->bs' x=m
 h2:∀x,¬Cm bs m W1 W2 x->bs' x=bs x
 ho:∀x,O' x=true↔O x=true\/Cm bs m W1 W2 x
 hw:∀x,x∈nw↔O x=false/\Cm bs m W1 W2 x
 nd:nw.Nodup
theorem Rng.sg (R:Rng M bk bs B O r one other m x1 x2 W1 W2 X1 X2) (g:Sg n E M bk bs O r dn q) (e:E one other) (s:Shr bs bs' O O' m W1 W2 nw):Sg n E M B bs' O' r dn (q++nw):=by
 have eb:∀y,y∈ev W1\/y∈ev W2->E y (B y):=fun y h=>h.elim (R.eb g e) (R.sym.eb g (g.gr _ _ e).1);have pos:∀y,y∈ev W1\/y∈ev W2->0<=B y:=fun y h=>(g.gr _ _ ((g.gr _ _ (eb y h)).1)).2.2.1;refine ⟨R.bl s.h1 s.h2 s.ho,g.gr,g.mt,g.rr,fun v o k=>?_,fun x hx=>?_,fun x hx o=>?_,fun v=>?_,?_,fun w o hw=>(s.ho _).mpr ?_⟩
 ·cases ov:O v with
  |true=>
   have h:=g.lab v ov k;refine ⟨h.1,?_⟩
   by_cases c:M v∈ev W1\/M v∈ev W2
   ·exact pos _ c
   ·rw [R.f0 _ (fun z=>c (.inl z)) fun z=>c (.inr z)];exact h.2
  |false=>
   obtain ⟨u,hu,rfl,k2,_⟩:=R.inn2 ov (((s.ho v).mp o).resolve_left (by rw [ov];exact qan))
   rw [k2];have ou:O u=true:=hu.elim (R.s1.evo R.h) (R.s2.evo R.h);exact ⟨(g.rng ou).1,pos u hu⟩
 ·by_cases c:x∈ev W1\/x∈ev W2
  ·exact eb x c
  ·rw [R.f0 _ (fun z=>c (.inl z)) fun z=>c (.inr z)] at hx ⊢;exact g.adj x hx
 ·have no:¬(O x=true\/Cm bs m W1 W2 x):=fun z=>by rw [(s.ho x).mpr z] at o;cases o
  have ox:O x=false:=Bool.eq_false_iff.mpr fun z=>no (.inl z);have c:¬(x∈ev W1\/x∈ev W2):=fun z=>no (.inl (z.elim (R.s1.evo R.h) (R.s2.evo R.h)));rw [R.f0 _ (fun z=>c (.inl z)) fun z=>c (.inr z)] at hx;have h:=g.inn x hx ox;exact ⟨h.1,(s.ho _).mpr (.inl h.2)⟩
 ·rw [s.ho v,←List.append_assoc,qao (s:=dn++q),s.hw v,←g.que v];cases O v with
  |true=>exact ⟨fun J=>.inl rfl,fun J=>.inl rfl⟩
  |false=>exact ⟨fun z=>z.elim (fun z=>by cases z) fun z=>.inr ⟨rfl,z⟩,fun z=>z.elim .inl fun z=>.inr z.2⟩
 ·rw [←List.append_assoc];refine List.nodup_append.mpr ⟨g.nod,s.nd,fun a ha b hb k=>?_⟩;subst k;have:=(g.que a).mpr ha;rw [((s.hw a).mp hb).1] at this;cases this
 ·by_cases c:w∈ev W1\/w∈ev W2
  ·exact .inr (c.elim (fun z=>.inr ⟨M w,.inl (zbT (R.s1.w.next z).2),rfl⟩) fun z=>.inr ⟨M w,.inr (zbT (R.s2.w.next z).2),rfl⟩)
  ·rw [R.f0 _ (fun z=>c (.inl z)) fun z=>c (.inr z)] at hw;refine .inl ?_;cases ow:O w with
   |true=>exact g.mkd w ow hw
   |false=>exact (g.inn w hw ow).2
theorem Rng.lk (R:Rng M bk bs B O r one other m x1 x2 W1 W2 X1 X2) (s:Shr bs bs' O O' m W1 W2 nw) {x y:Int} (h:Lk bk bs O q x y):Lk B bs' O' (q++nw) x y:=by
 rcases h with h |⟨o,b⟩ |h
 ·refine .inl ?_
  by_cases c:Cm bs m W1 W2 x
  ·rw [s.h1 x c,s.h1 y (c.of h.symm)]
  ·rw [s.h2 x c,s.h2 y fun z=>c (z.of h)];exact h
 ·cases o':O' y with
  |true=>exact .inr (.inr (qap _ ((s.hw y).mpr ⟨o,((s.ho y).mp o').resolve_left (by rw [o];exact qan)⟩)))
  |false=>
   refine .inr (.inl ⟨o',?_⟩);rw [R.f0 y (fun z=>by rw [R.s1.evo R.h z] at o;cases o) fun z=>by rw [R.s2.evo R.h z] at o;cases o]
   exact b
 ·exact .inr (.inr (qaw _ h))
theorem Sg.steps (g:Sg n E M bk bs O r dn q) {v:Int} {L:List Int} (u:Up M bk r v L):O v=true->L.Nodup->∀(k:Nat) a b,L[k]?=some a->L[k+1]?=some b->E a b/\(M a=b↔k%2=0):=by
 induction u with
 |root=>intro J J k a b J hb;rw [List.getElem?_eq_none (by simp)] at hb;cases hb
 | @step v L nr u ih=>
  intro o nd k a b ha hb;have h:=g.lab v o nr;have mv:=g.mt v h.1;have n1:=qar.mp nd;have n2:=qar.mp n1.2
  match k with
  | 0=>cases ha;cases hb;exact ⟨mv.2,fun J=>rfl,fun J=>rfl⟩
  | 1=>
   cases ha;have hb:L[0]?=some b:=hb;have e:b=bk (M v):=by
    cases u with
    |root=>cases hb;rfl
    |step _ _=>cases hb;rfl
   subst e;refine ⟨g.adj _ h.2,fun z=>?_,fun z=>absurd z (by decide)⟩
   rw [mv.1] at z;exact absurd (qag _ (z▸qav hb)) n1.1
  |k+2=>
   have:=ih (g.bl.nx v o nr) n2.2 k a b ha hb;rw [Nat.add_mod_right];exact this
theorem Up.len {v:Int} {L:List Int} (u:Up M bk r v L):L.length%2=1/\L[L.length-1]?=some r/\L[0]?=some v:=by
 induction u with
 |root=>exact ⟨rfl,rfl,rfl⟩
 | @step v L _ _ ih=>
  have:0<L.length:=by lia
  refine ⟨by rw [List.length_cons,List.length_cons];lia,?_,rfl⟩
  rw [List.length_cons,List.length_cons,show L.length+1+1-1=(L.length-1)+1+1 by lia]
  exact ih.2.1
end
section
variable {n:Nat} {E:Int->Int->Prop} {M N:Int->Int} {x y:Int}
theorem Mg.add (h:Mg n E M) (e:E x y) (e':E y x) (ne:x≠y) (rx:0<=x/\x<n) (ry:0<=y/\y<n) (fx:M x<0) (fy:M y<0):∃M',Mg n E M'/\∀i,0<=M' i↔0<=M i\/i=x\/i=y:=by
 have no:∀i,0<=M i->M i≠x/\M i≠y:=fun i hi=>by
  have g:=h i hi;exact ⟨fun z=>by rw [z] at g;lia,fun z=>by rw [z] at g;lia⟩
 let M':Int->Int:=fun i=>if i=x then y else if i=y then x else M i
 have v1:M' x=y:=if_pos rfl;have v2:M' y=x:=(if_neg (Ne.symm ne)).trans (if_pos rfl);have v4:∀i,i≠x->i≠y->M' i=M i:=fun i a b=>(if_neg a).trans (if_neg b);refine ⟨M',h.put (z:=x) rx ry e e' v1 v2 (.inl rfl) (fun i a b J=>v4 i a b) fun i hi J J J=>⟨(no i hi).1,(no i hi).2,(no i hi).1⟩,fun i=>?_⟩
 by_cases ix:i=x
 ·rw [ix,v1];lia
 by_cases iy:i=y
 ·rw [iy,v2];lia
 ·rw [v4 i ix iy];lia
theorem Mg.del (h:Mg n E M) (hx:0<=M x):∃M',Mg n E M'/\∀i,0<=M' i↔0<=M i/\i≠x/\i≠M x:=by
 have gx:=h x hx;have eq:∀i,0<=M i->i≠x->i≠M x->M i≠x/\M i≠M x:=fun i hi a b=>by
  have g:=(h i hi).2.1;exact ⟨fun z=>b (by rw [←g,z]),fun z=>a (by rw [←g,z,gx.2.1])⟩
 let M':Int->Int:=fun i=>if i=x then -1 else if i=M x then -1 else M i
 have v1:M' x = -1:=if_pos rfl;have v2:∀i,i=M x->M' i = -1:=fun i e=>by
  by_cases a:i=x
  ·rw [a];exact v1
  ·exact (if_neg a).trans (if_pos e)
 have v4:∀i,i≠x->i≠M x->M' i=M i:=fun i a b=>(if_neg a).trans (if_neg b);have c:∀i,0<=M' i↔0<=M i/\i≠x/\i≠M x:=fun i=>by
  by_cases a:i=x
  ·rw [a,v1];lia
  by_cases b:i=M x
  ·rw [v2 i b];lia
  ·rw [v4 i a b];lia
 refine ⟨M',fun i hi=>?_,c⟩;refine ob19 ((c i).mp hi) ?_;intro hi a b;rw [v4 i a b,v4 _ (eq i hi a b).1 (eq i hi a b).2];exact h i hi
variable {a b c d:Prop}
theorem pr1 (h:c->a/\b):(a/\b/\¬c)\/c\/d↔(a/\b)\/d:=
 ⟨fun z=>z.elim (fun z=>.inl ⟨z.1,z.2.1⟩) fun z=>z.elim (fun z=>.inl (h z)) .inr,fun z=>z.elim (fun z=>(Classical.em c).elim (fun c=>.inr (.inl c)) fun c=>.inl ⟨z.1,z.2,c⟩) fun z=>.inr (.inr z)⟩
theorem pr2 {e:Prop} (h:c->a/\b) (g:d->a/\b):((a/\b/\¬c)/\¬d\/e)\/c\/d↔(a/\b)\/e:=
 ⟨fun z=>z.elim (fun z=>z.elim (fun z=>.inl ⟨z.1.1,z.1.2.1⟩) .inr) fun z=>.inl (z.elim h g),fun z=>z.elim (fun z=>(Classical.em (c\/d)).elim .inr fun n=>.inl (.inl ⟨⟨z.1,z.2,fun c=>n (.inl c)⟩,fun d=>n (.inr d)⟩)) fun z=>.inl (.inr z)⟩
theorem pr3 {e:Prop} (h:c->a/\b) (g:d->a/\b):((a/\¬c/\¬d)/\b\/d)\/e\/c↔(a/\b)\/e:=
 ⟨fun z=>z.elim (fun z=>z.elim (fun z=>.inl ⟨z.1.1,z.2⟩) fun z=>.inl (g z)) fun z=>z.elim .inr fun z=>.inl (h z),fun z=>z.elim (fun z=>(Classical.em c).elim (fun c=>.inr (.inr c)) fun c=>(Classical.em d).elim (fun d=>.inl (.inr d)) fun d=>.inl (.inl ⟨⟨z.1,c,d⟩,z.2⟩)) fun z=>.inr (.inl z)⟩
theorem pr4 {f:Prop} (h:c->a/\b/\f) (g:d->a/\b/\f):((a/\b/\¬c)/\¬d/\f)\/c\/d↔a/\b/\f:=
 ⟨fun z=>z.elim (fun z=>⟨z.1.1,z.1.2.1,z.2.2⟩) fun z=>z.elim h g,fun z=>(Classical.em (c\/d)).elim .inr fun n=>.inl ⟨⟨z.1,z.2.1,fun c=>n (.inl c)⟩,fun d=>n (.inr d),z.2.2⟩⟩
theorem pr5 {e f:Prop} (h:c->a) (g:d->a):((a/\¬c/\¬d)\/d\/f)\/e\/c↔a\/e\/f:=
 ⟨fun z=>z.elim (fun z=>z.elim (fun z=>.inl z.1) fun z=>z.elim (fun z=>.inl (g z)) fun z=>.inr (.inr z)) fun z=>z.elim (fun z=>.inr (.inl z)) fun z=>.inl (h z),fun z=>z.elim (fun z=>(Classical.em c).elim (fun c=>.inr (.inr c)) fun c=>(Classical.em d).elim (fun d=>.inl (.inr (.inl d))) fun d=>.inl (.inl ⟨z,c,d⟩)) fun z=>z.elim (fun z=>.inr (.inl z)) fun z=>.inl (.inr (.inr z))⟩
theorem pr6 (h:c->a/\b):(a/\¬c/\b)\/d\/c↔(a/\b)\/d:=
 ⟨fun z=>z.elim (fun z=>.inl ⟨z.1,z.2.2⟩) fun z=>z.elim .inr fun z=>.inl (h z),fun z=>z.elim (fun z=>(Classical.em c).elim (fun c=>.inr (.inr c)) fun c=>.inl ⟨z.1,c,z.2⟩) fun z=>.inr (.inl z)⟩
def Alt (n:Nat) (E:Int->Int->Prop) (M N:Int->Int) (x:Int):Prop:=∃y M' N',y≠x/\(Mg n E M'/\Mg n E N') /\
 ((M y<0/\0<=N y/\(∀i,0<=M' i↔(0<=M i/\i≠x)\/i=y)/\∀i,0<=N' i↔(0<=N i/\i≠y)\/i=x) \/
  (0<=M y/\N y<0/\(∀i,0<=M' i↔0<=M i/\i≠x/\i≠y)/\∀i,0<=N' i↔0<=N i\/i=x\/i=y))
theorem Mg.alt (hE:∀i j,E i j->E j i/\i≠j):∀(k:Nat) {M N:Int->Int} {x:Int},Mg n E M->Mg n E N->cov N n<k->0<=M x->N x<0->Alt n E M N x
 | 0,_,_,_,_,_,hk,_,_=>by lia
 |k+1,M,N,x,hM,hN,hk,mx,nx=>by
  refine ob19 (hM x mx) ?_;intro rx mm ex;refine ob16 (hE _ _ ex) ?_;intro ex' ne;have mu:0<=M (M x):=by rw [mm];exact rx.1
  have ru:=(hM (M x) mu).1;refine ob1 (hM.del mx) ?_;intro M1 hM1 c1;generalize M x=u at *
  by_cases nu:N u<0
  ·refine ob1 (hN.add ex ex' ne rx ru nx nu) ?_;intro N' hN' c2;exact ⟨u,M1,N',Ne.symm ne,⟨hM1,hN'⟩,.inr ⟨mu,nu,c1,c2⟩⟩
  have nu:0<=N u:=by lia
  refine ob19 (hN u nu) ?_;intro J nn ez;refine ob16 (hE _ _ ez) ?_;intro ez' nez;have nz0:0<=N (N u):=by rw [nn];exact ru.1
  have rz:=(hN (N u) nz0).1;have zx:N u≠x:=fun e=>by rw [e] at nn;rw [nn] at nx;lia
  refine ob1 (hN.del nu) ?_;intro N1 hN1 c2;generalize hz:N u=z at *;have n1u:N1 u<0:=by have:=c2 u;lia
  have n1x:N1 x<0:=by have:=c2 x;lia
  have n1z:N1 z<0:=by have:=c2 z;lia
  have m1u:M1 u<0:=by have:=c1 u;lia
  have ku:∀i,i=u->0<=M i/\0<=N i:=fun i e=>by rw [e];exact ⟨mu,by rw [hz];exact nu⟩
  have kz:∀i,i=z->0<=N i:=fun i e=>e▸nz0
  by_cases mz:M z<0
  ·have m1z:M1 z<0:=by have:=c1 z;lia
   refine ob1 (hM1.add ez ez' nez ru rz m1u m1z) ?_;intro M' hM' d1;refine ob1 (hN1.add ex ex' ne rx ru n1x n1u) ?_;intro N' hN' d2;refine ⟨z,M',N',zx,⟨hM',hN'⟩,.inl ⟨mz,nz0,fun i=>?_,fun i=>?_⟩⟩
   ·rw [d1 i,c1 i];exact pr1 fun e=>⟨(ku i e).1,fun z=>ne (z.symm.trans e)⟩
   ·rw [d2 i,c2 i];exact pr6 fun e=>⟨(ku i e).2,fun z=>nez (e.symm.trans z)⟩
  have kz':∀i,i=z->0<=M i:=fun i e=>by rw [e];lia
  have less:cov N1 n<cov N n:=zmU (x:=u) (fun i J J h=>qaf ((c2 i).mp (of_decide_eq_true h)).1) ru.1 ru.2 (qai (by lia)) (qaf (by rw [hz];exact nu))
  obtain ⟨y,M',N',yz,⟨hM',hN'⟩,h⟩:=Mg.alt hE k (x:=z) hM1 hN1 (by lia) (by have:=c1 z;lia) n1z
  have m'u:M' u<0:=by
   have e1:=c1 u;have e2:=c2 u
   rcases h with ⟨_,hy,d,_⟩ |⟨_,_,d,_⟩
   ·have:=d u;have:u≠y:=fun e=>by rw [←e] at hy;lia
    lia
   ·have:=d u;lia
  have m'z:M' z<0:=by rcases h with ⟨_,_,d,_⟩ |⟨_,_,d,_⟩<;>(have:=d z;lia)
  have n'x:N' x<0/\N' u<0:=by
   rcases h with ⟨_,_,_,d⟩ |⟨hy,_,_,d⟩
   ·have:=d x;have:=d u;exact ⟨by lia,by lia⟩
   ·have:=d x;have:=d u;have:x≠y:=fun e=>by rw [←e] at hy;have:=c1 x;lia
    have:u≠y:=fun e=>by rw [←e] at hy;lia
    exact ⟨by lia,by lia⟩
  refine ob1 (hM'.add ez ez' nez ru rz m'u m'z) ?_;intro M2 hM2 d1;refine ob1 (hN'.add ex ex' ne rx ru n'x.1 n'x.2) ?_;intro N2 hN2 d2
  rcases h with ⟨h1,h2,h3,h4⟩ |⟨h1,h2,h3,h4⟩
  ·have y1:=(c2 y).mp h2;have yx:y≠x:=fun e=>by rw [e] at y1;lia
   refine ⟨y,M2,N2,yx,⟨hM2,hN2⟩,.inl ⟨by have:=c1 y;lia,y1.1,fun i=>?_,fun i=>?_⟩⟩
   ·rw [d1 i,h3 i,c1 i];exact pr2 (fun e=>⟨(ku i e).1,fun z=>ne (z.symm.trans e)⟩) fun e=>⟨kz' i e,fun z=>zx (e.symm.trans z)⟩
   ·rw [d2 i,h4 i,c2 i];exact pr3 (fun e=>⟨(ku i e).2,fun z=>y1.2.1 (z.symm.trans e)⟩) fun e=>⟨kz i e,fun z=>yz (z.symm.trans e)⟩
  ·have y1:=(c1 y).mp h1;refine ⟨y,M2,N2,y1.2.1,⟨hM2,hN2⟩,.inr ⟨y1.1,by have:=c2 y;lia,fun i=>?_,fun i=>?_⟩⟩
   ·rw [d1 i,h3 i,c1 i];exact pr4 (fun e=>⟨(ku i e).1,fun z=>ne (z.symm.trans e),fun z=>y1.2.2 (z.symm.trans e)⟩) fun e=>⟨kz' i e,fun z=>zx (e.symm.trans z),fun z=>yz (z.symm.trans e)⟩
   ·rw [d2 i,h4 i,c2 i];exact pr5 (fun e=>(ku i e).2) fun e=>kz i e
theorem Mg.cover2 (hE:∀i j,E i j->E j i/\i≠j) (hM:Mg n E M):∀(k:Nat) {N:Int->Int},Mg n E N->cov M n<cov N n->cnt (fun i=>decide (0<=M i) && !decide (0<=N i)) n<k ->
  ∃N',Mg n E N'/\(∀i,0<=M i->0<=N' i)/\∃r:Int,(0<=r/\r<n)/\M r<0/\0<=N' r
 | 0,_,_,_,hk=>absurd hk (Nat.not_lt_zero _)
 |k+1,N,hN,hc,hk=>by
  by_cases all:∀i,0<=M i->0<=N i
  ·refine ob8 (zpq hc) ?_;intro r h0 h1 h2 h3;exact ⟨N,hN,all,r,⟨h0,h1⟩,Int.not_le.mp (of_decide_eq_false h3),of_decide_eq_true h2⟩
  refine lift fun g9 k9=>?_;refine ob14 (Classical.not_forall.mp all) ?_;intro x hx;refine ob16 (Classical.not_imp.mp hx) ?_;intro mx nx;refine ob63 (Mg.alt hE (cov N n+1) hM hN (Nat.lt_succ_self _) mx (Int.not_le.mp nx)) ?_;intro y M' N' yx J hN' h
  apply k9
  clear k9 g9;have rx:=(hM x mx).1;have key:cov N n<=cov N' n/\0<=N' x/\∀i,0<=M i->0<=N i->0<=N' i:=by
   rcases h with ⟨my,ny,_,d⟩ |⟨_,_,_,d⟩
   ·have ry:=(hN y ny).1;refine ⟨Nat.le_of_eq (zfp rx.1 rx.2 ry.1 ry.2 (Ne.symm yx) (qai nx) (qaf ((d x).mpr (.inr rfl))) (qaf ny) (qai fun z=>?_) fun i a b=>decide_eq_decide.mpr ?_).symm,(d x).mpr (.inr rfl),fun i mi ni=>(d i).mpr (.inl ⟨ni,fun e=>Int.not_le.mpr my (e▸mi)⟩)⟩
    ·exact ((d y).mp z).elim (fun z=>z.2 rfl) yx
    ·exact ⟨fun z=>((d i).mp z).elim (fun z=>z.1) fun z=>absurd z a,fun z=>(d i).mpr (.inl ⟨z,b⟩)⟩
   ·exact ⟨zgq fun i J J z=>qaf ((d i).mpr (.inl (of_decide_eq_true z))),(d x).mpr (.inr (.inl rfl)),fun i J ni=>(d i).mpr (.inl ni)⟩
  refine Mg.cover2 hE hM k hN' (Nat.lt_of_lt_of_le hc key.1) (Nat.lt_of_lt_of_le (zmU (x:=x) (fun i J J z=>?_) rx.1 rx.2 ?_ ?_) (Nat.le_of_lt_succ hk))
  ·refine ob16 (Bool.and_eq_true_iff.mp z) ?_;intro a b;refine Bool.and_eq_true_iff.mpr ⟨a,?_⟩;cases c:decide (0<=N i) with
   |false=>rfl
   |true=>rw [qaf (key.2.2 i (of_decide_eq_true a) (of_decide_eq_true c))] at b;cases b
  ·show (_&&_)=false;rw [qaf key.2.1,Bool.not_true,Bool.and_false]
  ·show (_&&_)=true;rw [qaf mx,qai nx];rfl
end
section
variable {k:Nat} {aa:Store} {Q:V->Store->Prop} {X:XP}
variable {i:Int} {K:V->Prop}
theorem zcJ {a:Addr} {n:Nat} {M:Int->Int} (ha:aa a=some (.list (zaD n M))) (h0:0<=i) (h1:i<n) (h:K (.int (M i))):idxV (.ref a) (.int i) aa K:=zaG ha h0 (zbX h0 h1) h
variable {a:Addr}
theorem zjN {n:Nat} {M:Int->Int} {v:Int} {Q:Store->Prop} (ha:aa a=some (.list (zaD n M))) (h0:0<=i) (h1:i<n) (h:Q (aa.upd a (.list (zaD n fun j=>if j=i then v else M j)))):za4 (.ref a) (.int i) (.int v) aa Q:=by
 refine zby ha h0 (by rw [zbW];exact h1) ?_
 rw [zcp h0];exact h
theorem zlh {w:Addr} {o:AO} (h:(aa.upd a o) w=none):w≠a/\aa w=none:=by
 by_cases e:w=a
 ·subst e;rw [zab] at h;cases h
 ·rw [zaf e] at h;exact ⟨e,h⟩
theorem zhn {l:List Int} {i:Nat} {v:V} (h:(l.map V.int)[i]?=some v):∃j,v=.int j/\l[i]?=some j:=by
 rw [qau] at h;refine ob1 (Option.map_eq_some_iff.mp h) ?_;intro j e e';exact ⟨j,e'.symm,e⟩
theorem mem_sortI {l:List Int} {j:Int}:j∈zaw l↔j∈l:=(zaT l).mem_iff
variable {n:Int} {T:List (Int×Int)}
theorem zcG {j:Int} (ht:∀p∈T,zap n p) (h:j∈nb T i):(0<=i/\i<n)/\(0<=j/\j<n)/\i≠j:=by
 rcases mem_nb.mp h with h |h
 ·have h1:=ht _ h;exact ⟨⟨h1.1,Int.lt_trans h1.2.1 h1.2.2⟩,⟨Int.le_trans h1.1 (Int.le_of_lt h1.2.1),h1.2.2⟩,Int.ne_of_lt h1.2.1⟩
 ·have h1:=ht _ h;exact ⟨⟨Int.le_trans h1.1 (Int.le_of_lt h1.2.1),h1.2.2⟩,⟨h1.1,Int.lt_trans h1.2.1 h1.2.2⟩,(Int.ne_of_lt h1.2.1).symm⟩
theorem zcN {j:Int} (h:j∈nb T i):i∈nb T j:=by rw [mem_nb] at h ⊢;exact h.symm
theorem zoO {aj:Store} {x d r:Addr} {rs:List Addr} {m:Nat} {md:Bool} (h:NetAt aj x d r rs n T) (e:Ext aj aa) (h0:0<=i) (h1:i<n) (g:∀a,aj a=some (.list ((zaw (nb T i)).map V.int))->K (.ref a)) :
  zb9 (sem zae zaj m md).fld (.ref x) "rows" aa fun u=>idxV u (.int i) aa K:=by
 refine ob1 (h.rowAt (i:=i.toNat) (by lia)) ?_
 intro a ha ha';rw [Int.toNat_of_nonneg h0] at ha';have h':=h.ext e;exact zaP h'.top h'.dic fldN rfl (zaG h'.rows.top h0 (by rw [qau,ha];rfl) (g a ha'))
theorem zaX {x d r:Addr} {rs:List Addr} {m:Nat} {md:Bool} (h:NetAt aa x d r rs n T) (g:K (.int n)):zb9 (sem zae zaj m md).fld (.ref x) "size" aa K:=zaP h.top h.dic fldS rfl g
theorem zkM {chk:Store->Prop} {B:V->Store->(Option V->Store->Prop)->Prop} (M:Int->Int) (hc:chk aa) (hn:n<=1000) (hB:∀i:Int,0<=i->i<n->∀K:Option V->Store->Prop,K (some (.int (M i))) aa->B (.int i) aa K)
  (h:∀a,aa a=none->Q (.ref a) (aa.upd a (.list (zaD n.toNat M)))):zbR chk B Q ((upto 0 n 1).map V.int) [] aa:=
 zdm (fun i=>some (.int (M i))) hc hn hB fun a ha=>by
  have:((List.range n.toNat).filterMap fun i:Nat=>some (V.int (M i)))=zaD n.toNat M:=by simp [zaD,List.filterMap_eq_map']
  rw [this];exact h a ha
noncomputable def zcF (n:Nat) (O:Int->Bool):List V:=zdD n fun i=>O i
theorem zku {n:Nat} {O:Int->Bool} (ha:aa a=some (.list (zcF n O))) (h0:0<=i) (h1:i<n) (h:K (.bool (O i))):idxV (.ref a) (.int i) aa K:=
 zaG ha h0 (zkT (by lia)) (by rw [Int.toNat_of_nonneg h0];exact h)
theorem zmI {n:Nat} {O:Int->Bool} {Q:Store->Prop} (ha:aa a=some (.list (zcF n O))) (h0:0<=i) (h1:i<n) (h:Q (aa.upd a (.list (zcF n fun x=>O x||decide (x=i))))):za4 (.ref a) (.int i) (.bool true) aa Q:=by
 refine zby ha h0 (by unfold zcF;rw [zkS];exact h1) ?_
 have:(zcF n O).set i.toNat (.bool true)=zcF n fun x=>O x||decide (x=i):=by
  unfold zcF;rw [zkR];unfold zdD;refine List.map_congr_left fun j J=>congrArg V.bool ?_;show (if j=i.toNat then true else O j)=(O j||decide ((j:Int)=i))
  by_cases e:j=i.toNat
  ·rw [if_pos e,qaf (by lia),Bool.or_true]
  ·rw [if_neg e,qai (by lia),Bool.or_false]
 rw [this];exact h
theorem zof {chk:Store->Prop} {B:V->Store->(Option V->Store->Prop)->Prop} (O:Int->Bool) (hc:chk aa) (hn:n<=1000) (hB:∀i:Int,0<=i->i<n->∀K:Option V->Store->Prop,K (some (.bool (O i))) aa->B (.int i) aa K)
  (h:∀a,aa a=none->Q (.ref a) (aa.upd a (.list (zcF n.toNat O)))):zbR chk B Q ((upto 0 n 1).map V.int) [] aa:=
 zdm (fun i=>some (.bool (O i))) hc hn hB fun a ha=>by
  have:((List.range n.toNat).filterMap fun i:Nat=>some (V.bool (O i)))=zcF n.toNat O:=by simp [zcF,zdD,List.filterMap_eq_map']
  rw [this];exact h a ha
end
structure Ad where
 sr:Addr
 ds:Addr
 x:Addr
 m:Addr
 b:Addr
 ba:Addr
 o:Addr
 w:Addr
noncomputable def seaF (A:Ad) (root:Int):List (String×V):=[("ground",.ref A.x),("mate",.ref A.m),("root",.int root),("back",.ref A.b),("base",.ref A.ba),("outer",.ref A.o),("waiting",.ref A.w)]
structure Sa (aj aa:Store) (A:Ad) (n root:Int) (bk bs:Int->Int) (O:Int->Bool) (q:List Int):Prop where
 ext:Ext aj aa
 top:aa A.sr=some (.inst "Search" A.ds)
 dic:aa A.ds=some (.ns (seaF A root))
 hb:aa A.b=some (.list (zaD n.toNat bk))
 hs:aa A.ba=some (.list (zaD n.toNat bs))
 ho:aa A.o=some (.list (zcF n.toNat O))
 hw:aa A.w=some (.list (q.map V.int))
 fd:aj A.ds=none
 fb:aj A.b=none
 fs:aj A.ba=none
 fo:aj A.o=none
 fw:aj A.w=none
 bs_:A.b≠A.ba
 bo:A.b≠A.o
 bw:A.b≠A.w
 os:A.o≠A.ba
 ow:A.o≠A.w
 ws:A.w≠A.ba
section
variable {k:Nat} {aa aj:Store} {Q:V->Store->Prop} {X:XP} {A:Ad} {n root:Int} {bk bs M:Int->Int} {O:Int->Bool} {q:List Int}
variable {md:Bool}
theorem sfld {f:String} (h:zaj "Search" f=true):(sem zae zaj k md).fld "Search" f:=h
variable {K:V->Prop} {j:Nat}
theorem Sa.at (h:Sa aj aa A n root bk bs O q) {f:String} {v:V} (hf:zaj "Search" f=true) (e:(seaF A root).lookup f=some v) (g:K v):zb9 (sem zae zaj j md).fld (.ref A.sr) f aa K:=
 zaP h.top h.dic (sfld hf) e g
theorem Sa.ground (h:Sa aj aa A n root bk bs O q) (g:K (.ref A.x)):zb9 (sem zae zaj j md).fld (.ref A.sr) "ground" aa K:=h.at rfl rfl g
theorem Sa.mate (h:Sa aj aa A n root bk bs O q) (hm:aj A.m=some (.list (zaD n.toNat M))) {i:Int} (h0:0<=i/\i<n) (g:K (.int (M i))):zb9 (sem zae zaj j md).fld (.ref A.sr) "mate" aa fun u=>idxV u (.int i) aa K:=h.at rfl rfl (zcJ (h.ext _ _ hm) h0.1 (by lia) g)
theorem Sa.rootA (h:Sa aj aa A n root bk bs O q) (g:K (.int root)):zb9 (sem zae zaj j md).fld (.ref A.sr) "root" aa K:=h.at rfl rfl g
theorem Sa.back (h:Sa aj aa A n root bk bs O q) {i:Int} (h0:0<=i/\i<n) (g:K (.int (bk i))):zb9 (sem zae zaj j md).fld (.ref A.sr) "back" aa fun u=>idxV u (.int i) aa K:=h.at rfl rfl (zcJ h.hb h0.1 (by lia) g)
theorem Sa.base (h:Sa aj aa A n root bk bs O q) {i:Int} (h0:0<=i/\i<n) (g:K (.int (bs i))):zb9 (sem zae zaj j md).fld (.ref A.sr) "base" aa fun u=>idxV u (.int i) aa K:=h.at rfl rfl (zcJ h.hs h0.1 (by lia) g)
theorem Sa.outer (h:Sa aj aa A n root bk bs O q) (g:K (.ref A.o)):zb9 (sem zae zaj j md).fld (.ref A.sr) "outer" aa K:=h.at rfl rfl g
theorem Sa.waiting (h:Sa aj aa A n root bk bs O q) (g:K (.ref A.w)):zb9 (sem zae zaj j md).fld (.ref A.sr) "waiting" aa K:=h.at rfl rfl g
theorem zms {vs:List V} {c:String} {d:Addr}:AO.list vs≠.inst c d:=fun e=>by cases e
theorem zjo {vs:List V} {fs:List (String×V)}:AO.list vs≠.ns fs:=fun e=>by cases e
theorem Sa.putB (h:Sa aj aa A n root bk bs O q) {bk':Int->Int}:Sa aj (aa.upd A.b (.list (zaD n.toNat bk'))) A n root bk' bs O q:=
 ⟨h.ext.upd h.fb,(zaf (za7 h.hb h.top zms).symm).trans h.top,(zaf (za7 h.hb h.dic zjo).symm).trans h.dic,zab,(zaf h.bs_.symm).trans h.hs,(zaf h.bo.symm).trans h.ho,(zaf h.bw.symm).trans h.hw,h.fd,h.fb,h.fs,h.fo,h.fw,h.bs_,h.bo,h.bw,h.os,h.ow,h.ws⟩
theorem Sa.putS (h:Sa aj aa A n root bk bs O q) {bs':Int->Int}:Sa aj (aa.upd A.ba (.list (zaD n.toNat bs'))) A n root bk bs' O q:=
 ⟨h.ext.upd h.fs,(zaf (za7 h.hs h.top zms).symm).trans h.top,(zaf (za7 h.hs h.dic zjo).symm).trans h.dic,(zaf h.bs_).trans h.hb,zab,(zaf h.os).trans h.ho,(zaf h.ws).trans h.hw,h.fd,h.fb,h.fs,h.fo,h.fw,h.bs_,h.bo,h.bw,h.os,h.ow,h.ws⟩
theorem Sa.putO (h:Sa aj aa A n root bk bs O q) {O':Int->Bool}:Sa aj (aa.upd A.o (.list (zcF n.toNat O'))) A n root bk bs O' q:=
 ⟨h.ext.upd h.fo,(zaf (za7 h.ho h.top zms).symm).trans h.top,(zaf (za7 h.ho h.dic zjo).symm).trans h.dic,(zaf h.bo).trans h.hb,(zaf h.os.symm).trans h.hs,zab,(zaf h.ow.symm).trans h.hw,h.fd,h.fb,h.fs,h.fo,h.fw,h.bs_,h.bo,h.bw,h.os,h.ow,h.ws⟩
theorem Sa.putW (h:Sa aj aa A n root bk bs O q) {q':List Int}:Sa aj (aa.upd A.w (.list (q'.map V.int))) A n root bk bs O q':=
 ⟨h.ext.upd h.fw,(zaf (za7 h.hw h.top zms).symm).trans h.top,(zaf (za7 h.hw h.dic zjo).symm).trans h.dic,(zaf h.bw).trans h.hb,(zaf h.ws.symm).trans h.hs,(zaf h.ow).trans h.ho,zab,h.fd,h.fb,h.fs,h.fo,h.fw,h.bs_,h.bo,h.bw,h.os,h.ow,h.ws⟩
theorem Sa.newW (h:Sa aj aa A n root bk bs O q) {q':List Int} {w':Addr} (hw:aa w'=none):Sa aj ((aa.upd w' (.list (q'.map V.int))).upd A.ds (.ns (seaF { A with w:=w' } root))) { A with w:=w' } n root bk bs O q':=by
 have nn:∀{a:Addr} {u:AO},aa a=some u->a≠w':=fun ha=>zaH ha hw;have li:∀{a:Addr} {vs:List V},aa a=some (.list vs)->a≠A.ds:=fun ha=>za7 ha h.dic zjo;have keep:∀{a:Addr} {vs:List V},aa a=some (.list vs)->((aa.upd w' (.list (q'.map V.int))).upd A.ds (.ns (seaF { A with w:=w' } root))) a=some (.list vs):=fun ha=>(zaf (li ha)).trans ((zaf (nn ha)).trans ha);exact ⟨(h.ext.upd (h.ext.none hw)).upd h.fd,(zaf (za7 h.top h.dic fun e=>by cases e)).trans ((zaf (nn h.top)).trans h.top),zab,keep h.hb,keep h.hs,keep h.ho,(zaf (nn h.dic).symm).trans zab,h.fd,h.fb,h.fs,h.fo,h.ext.none hw,h.bs_,h.bo,nn h.hb,h.os,nn h.ho,(nn h.hs).symm⟩
theorem Sa.new (h:Sa aj aa A n root bk bs O q) {a:Addr} {u:AO} (ha:aa a=none):Sa aj (aa.upd a u) A n root bk bs O q:=by
 have nn:∀{a':Addr} {u:AO},aa a'=some u->a'≠a:=fun ha'=>zaH ha' ha;exact ⟨h.ext.upd (h.ext.none ha),(zaf (nn h.top)).trans h.top,(zaf (nn h.dic)).trans h.dic,(zaf (nn h.hb)).trans h.hb,(zaf (nn h.hs)).trans h.hs,(zaf (nn h.ho)).trans h.ho,(zaf (nn h.hw)).trans h.hw,h.fd,h.fb,h.fs,h.fo,h.fw,h.bs_,h.bo,h.bw,h.os,h.ow,h.ws⟩
end
section
variable {k:Nat} {aa aj:Store} {Q:V->Store->Prop} {X:XP} {sr ds x m:Addr} {n root:Int} {d r:Addr} {rs:List Addr} {T:List (Int×Int)}
structure Sb (aj aa:Store) (sr ds:Addr) (fs:List (String×V)):Prop where
 ext:Ext aj aa
 top:aa sr=some (.inst "Search" ds)
 dic:aa ds=some (.ns fs)
 fd:aj ds=none
theorem Sb.set {fs:List (String×V)} (h:Sb aj aa sr ds fs) {f:String} {v:V} {j:Nat} {md:Bool} {K:Store->Prop} (hf:zaj "Search" f=true) (hl:fs.length<100)
  (g:∀ac,Sb aj ac sr ds (putF f v fs)->(∀a vs,aa a=some (.list vs)->ac a=some (.list vs))->K ac):zdE (sem zae zaj j md).fld (.ref sr) f v aa K:=
 zah h.top h.dic ⟨⟨sfld hf,hl⟩,g _ ⟨h.ext.upd h.fd,(zaf (za7 h.top h.dic fun e=>by cases e)).trans h.top,zab,h.fd⟩ fun a vs ha=>(zaf (za7 ha h.dic zjo)).trans ha⟩
theorem Sb.new {fs:List (String×V)} (h:Sb aj aa sr ds fs) {a:Addr} {u:AO} (ha:aa a=none):Sb aj (aa.upd a u) sr ds fs:=
 ⟨h.ext.upd (h.ext.none ha),(zaf (zaH h.top ha)).trans h.top,(zaf (zaH h.dic ha)).trans h.dic,h.fd⟩
theorem zoC:(zae "Search" "__init__").isSome=true:=rfl
theorem zlC (hx:NetAt aj x d r rs n T) (h:Sb aj aa sr ds [])
  (hQ:∀ac A,Sa aj ac A n root (fun J=>-1) (fun i=>i) (fun i=>decide (i=root)) [root]->A.sr=sr->A.ds=ds->A.x=x->A.m=m->Q .none ac):(sem zae zaj (k+1) true).run "Search" "__init__" [.ref sr,.ref x,.ref m,.int root] aa Q X:=by
 have hlo:=hx.lo;have hhi:=hx.hi;refine zag (F:=zcd) rfl ⟨rfl,?_⟩
 delta zcd
 refine h.set rfl (Nat.le_of_ble_eq_true rfl) fun am h1 J=>?_
 delta T_Search_init_6
 refine h1.set rfl (Nat.le_of_ble_eq_true rfl) fun au h2 J=>?_
 delta T_Search_init_5
 refine h2.set rfl (Nat.le_of_ble_eq_true rfl) fun ax h3 J=>?_
 delta T_Search_init_4
 refine zaX (hx.ext h3.ext) ⟨by lia,zkM (fun J=>-1) trivial (by lia) (fun i h0 h1 K hK=>by simpa only [if_true,zgC,zes,ziq,zdP,zdf,zde,zmv,zfB,zmw,zin,zmx,zio,zk4,zgH,zit,E_tt,E_ff,zmD,zmB,zmA,ziA,zmF,zmC,zk8,zk9,zgJ,zgK,ziB,zix,ziv,E_m0,E_m1,ziC,zmE,zfG,ziy,zfF,zfH,zhB,E_b1,ziz,zis,ziu,ziw,zou,zla,zhE,zhD,zhC,zgI,zeu,zhF,zev,I_r1,I_r2,I_r3,zk0,zgG,zgF,zk3,zdI,zfe,zfd,zgM,zgL,zgE,zgD,Loc.get,zgz,zgs,zjs,zas,tgOk,onT,zfn,zfu,zel,zss,zsz,zc5] using hK) fun b hb=>?_⟩
 refine (h3.new hb).set rfl (Nat.le_of_ble_eq_true rfl) fun ay h4 k4=>?_;have b4:=k4 b _ zab
 delta T_Search_init_3
 refine zaX (hx.ext h4.ext) ⟨by lia,zkM (fun i=>i) trivial (by lia) (fun i h0 h1 K hK=>by simpa only [if_true,zgC,zes,ziq,zdP,zdf,zde,zmv,zfB,zmw,zin,zmx,zio,zk4,zgH,zit,E_tt,E_ff,zmD,zmB,zmA,ziA,zmF,zmC,zk8,zk9,zgJ,zgK,ziB,zix,ziv,E_m0,E_m1,ziC,zmE,zfG,ziy,zfF,zfH,zhB,E_b1,ziz,zis,ziu,ziw,zou,zla,zhE,zhD,zhC,zgI,zeu,zhF,zev,I_r1,I_r2,I_r3,zk0,zgG,zgF,zk3,zdI,zfe,zfd,zgM,zgL,zgE,zgD,Loc.get,zgz,zgs,zjs,zas,tgOk,onT,zfn,zfu,zel,zss,zsz,zc5] using hK) fun ba hba=>?_⟩
 have n1:b≠ba:=zaH b4 hba;refine (h4.new hba).set rfl (Nat.le_of_ble_eq_true rfl) fun aJ h5 k5=>?_;have b5:=k5 b _ ((zaf n1).trans b4);have c5:=k5 ba _ zab
 delta T_Search_init_2
 refine zaX (hx.ext h5.ext) ⟨by lia,zof (fun i=>decide (i=root)) trivial (by lia) (fun i h0 h1 K hK=>by simp only [if_true,zas,zoj];exact hK) fun o ho=>?_⟩
 have n2:b≠o:=zaH b5 ho;have n3:ba≠o:=zaH c5 ho;refine (h5.new ho).set rfl (Nat.le_of_ble_eq_true rfl) fun aH h6 k6=>?_;have b6:=k6 b _ ((zaf n2).trans b5);have c6:=k6 ba _ ((zaf n3).trans c5);have d6:=k6 o _ zab
 delta T_Search_init_1
 refine ⟨Nat.le_of_ble_eq_true rfl,fun w hw=>?_⟩;have n4:b≠w:=zaH b6 hw;have n5:ba≠w:=zaH c6 hw;have n6:o≠w:=zaH d6 hw;refine (h6.new hw).set rfl (Nat.le_of_ble_eq_true rfl) fun be h7 k7=>?_;exact hQ be ⟨sr,ds,x,m,b,ba,o,w⟩ ⟨h7.ext,h7.top,h7.dic,k7 b _ ((zaf n4).trans b6),k7 ba _ ((zaf n5).trans c6),k7 o _ ((zaf n6).trans d6),k7 w _ zab,h7.fd,h3.ext.none hb,h4.ext.none hba,h5.ext.none ho,h6.ext.none hw,n1,n2,n4,n3.symm,n6,n5.symm⟩ rfl rfl rfl rfl
end
section
variable {k:Nat} {aa aj:Store} {Q:V->Store->Prop} {X:XP} {A:Ad} {n root:Int} {bk bs M:Int->Int} {O:Int->Bool} {q dn:List Int} {T:List (Int×Int)} {one other:Int}
def Nb (T:List (Int×Int)) (i j:Int):Prop:=j∈nb T i
theorem Sg.mr (g:Sg n (Nb T) M bk bs O root dn q) {v:Int} (h:0<=M v):0<=M v/\M v<n:=(g.gr _ _ (g.gr _ _ (g.mt v h).2).1).2.2
theorem Sg.pr (g:Sg n (Nb T) M bk bs O root dn q) {v:Int} {L:List Int} (u:Up M bk root v L) (o:O v=true):∀x∈L,0<=x/\x<n:=fun x hx=>by
 rcases zbV hx with h |h
 ·exact g.rng (g.bl.evO u o x h)
 ·refine ob6 (u.odd h) ?_;intro c hc nc ee227;subst ee227;exact g.mr (g.lab c (g.bl.evO u o c hc) nc).1
theorem Sg.pl (g:Sg n (Nb T) M bk bs O root dn q) (hn:n<=40) {v:Int} {L:List Int} (u:Up M bk root v L) (o:O v=true):L.length<=40:=
 za5 (m:=40) (g.bl.nd o u) fun i hi=>by have:=g.pr u o i hi;lia
theorem Sg.bn (g:Sg n (Nb T) M bk bs O root dn q) {b:Int} (o:O b=true) (m:0<=M b):b≠root/\(0<=M b/\M b<n)/\(0<=bk (M b)/\bk (M b)<n):=by
 have nr:b≠root:=fun e=>by have:=g.rr.2;rw [←e] at this;lia
 exact ⟨nr,g.mr m,g.rng (g.bl.nx b o nr)⟩
theorem zf5 (h:Sa aj aa A n root bk bs O q) (hm:aj A.m=some (.list (zaD n.toNat M))) (g:Sg n (Nb T) M bk bs O root dn q) (hn:n<=40) (o1:O one=true) (o2:O other=true)
  (hQ:∀s (D:List Int) m W1 x1 X1 W2 x2 X2,aa s=none->Side M bk bs O root one m W1 x1 X1->Side M bk bs O root other m W2 x2 X2->(∀y∈W1,∀z∈W2,bs y≠bs z)->Q (.int m) (aa.upd s (.dict (D.map V.int)))) :
  (sem zae zaj (k+1) true).run "Search" "meeting" [.ref A.sr,.int one,.int other] aa Q X:=by
 refine zag (F:=zbq) rfl ⟨rfl,?_⟩;have step:∀{ac:Store} {b:Int} {K:V->Prop} {j:Nat},Sa aj ac A n root bk bs O q->O b=true->0<=M b->K (.int (bs (bk (M b)))) ->
   zb9 (sem zae zaj j true).fld (.ref A.sr) "base" ac fun u=>zb9 (sem zae zaj j true).fld (.ref A.sr) "back" ac fun u2=>zb9 (sem zae zaj j true).fld (.ref A.sr) "mate" ac fun u3=>idxV u3 (.int b) ac fun v=>idxV u2 v ac fun v=>idxV u v ac K:=fun h' ob hb hK=>by
  have r1:=g.rng ob;refine ob19 (g.bn ob hb) ?_;intro J r2 r3;exact h'.at rfl rfl (h'.at rfl rfl (h'.at rfl rfl (zcJ (h'.ext _ _ hm) r1.1 (by lia) (zcJ h'.hb r2.1 (by lia) (zcJ h'.hs r3.1 (by lia) hK)))))
 delta zbq
 intro s hs;have h1:∀{D:List V},Sa aj (aa.upd s (.dict D)) A n root bk bs O q:=fun {D}=>h.new hs
 delta T_Search_meeting_7
 refine h1.base (g.rng o1) ?_
 delta T_Search_meeting_6
 refine za3 (D:=[]) zab (by decide) ?_
 rw [if_neg qam,zbn]
 delta T_Search_meeting_5
 refine zbc (fun t ad ac=>∃seen P b Y,Sn M bk bs root one seen P b Y/\O b=true/\Y.length+t<=40/\seen.length<=t+1/\ac=aa.upd s (.dict (seen.map V.int))/\ad=[some (.ref A.sr),some (.int one),some (.int other),some (.ref s),some (.int b)]) 40 ?_ ?_ ?_
 ·refine ob20 (Sn.init g.bl o1) ?_;intro P Y sn;exact ⟨_,P,_,Y,sn,(g.bl.bb one o1).1,by have:=g.pl hn sn.u (g.bl.bb one o1).1;lia,qal _,rfl,rfl⟩
 ·intro t ad ac zz46;refine ob64 zz46 ?_;clear zz46;intro seen P b Y sn ob l1 l2 ee228;subst ee228;intro ee229;subst ee229
  lia
 ·intro t ad ac K zz47;refine ob64 zz47 ?_;clear zz47;intro seen P b Y sn ob l1 l2 ee230;subst ee230;intro ee231;subst ee231;intro hK;simp only [zgz,zgs,zjs,zas];refine h1.mate hm (g.rng ob) (zaa (a:=decide (0<=M b)) rfl ?_);show if decide (0<=M b)=true then _ else _
  refine zo6 (fun c=>?_) fun c=>?_
  ·have hb:=of_decide_eq_true c;refine ob19 (g.bn ob hb) ?_;intro nr J J
   delta L_Search_meeting_1
   refine step h1 ob hb ?_
   delta T_Search_meeting_1
   refine za3 zab (by unfold zao;lia) ?_
   rw [zbn];obtain ⟨P',Y',sn',ly⟩:=sn.next (seen':=if bs (bk (M b))∈seen then seen else seen++[bs (bk (M b))]) g.bl o1 nr fun c=>by
    split
    ·exact ⟨.inl,fun y=>y.elim id fun e=>e ▸ ‹bs (bk (M b))∈seen›⟩
    ·rw [qao,qah]
   refine hK _ _ ⟨_,P',_,Y',sn',(g.bl.next ob nr).1,by lia,?_,rfl,rfl⟩
   split
   ·lia
   ·rw [qat,List.length_singleton];lia
  ·have er:b=root:=Classical.byContradiction fun z=>c (qaf (g.lab b ob z).1);subst er;have se:=sn.end;have u1:=sn.w.up sn.u;have rs:=se.root u1 g.bl.bsr;have sO:∀c∈seen,O c=true:=fun c hc=>g.bl.evO u1 o1 c ((se.on c hc).2 u1)
   delta T_Search_meeting_4
   refine h1.base (g.rng o2) ?_
   delta T_Search_meeting_3
   refine ob14 (g.bl.upL o2) ?_;intro L2 u2;refine zbc (fun t ad ac=>∃W x Y,Met M bk bs O b other seen W x Y/\Y.length+t<=40/\ac=aa.upd s (.dict (seen.map V.int))/\ad=[some (.ref A.sr),some (.int one),some (.int other),some (.ref s),some (.int (bs x))]) 40
    ⟨[],other,L2,⟨.nil,u2,fun y hy=>absurd hy qam⟩,by have:=g.pl hn u2 o2;lia,rfl,rfl⟩ ?_ ?_
   ·intro t ad ac zz48;refine ob4 zz48 ?_;clear zz48;intro W x Y mt l ee232;subst ee232;intro ee233;subst ee233
    lia
   ·intro t ad ac K zz49;refine ob4 zz49 ?_;clear zz49;intro W x Y mt l ee234;subst ee234;intro ee235;subst ee235;intro hK;simp only [zgz,zgs,zjs,zas];rw [zaN,zbN zab];show if (!decide (bs x∈seen))=true then _ else _
    have ox:O x=true:=g.bl.evO (mt.w.up mt.u) o2 x (by rw [mt.w.evA];exact qap _ mt.u.head)
    by_cases c:bs x∈seen
    ·rw [qaf c];refine zl1 (c:=(!true)=true) qan ?_
     delta T_Search_meeting_2
     refine ob10 (g.bl.sides o1 o2 se mt c) ?_;intro W1 x1 X1 s1 s2 dj;exact hQ s seen _ W1 x1 X1 W x Y hs s1 s2 dj
    ·rw [qai c];refine zfc (c:=(!false)=true) rfl ?_;have nr:bs x≠b:=fun e=>c (e▸rs);have ob2:=(g.bl.bb x ox).1
     delta L_Search_meeting_2
     refine step h1 ob2 (g.lab _ ob2 nr).1 ?_;refine ob22 (mt.next g.bl o2 sO c nr) ?_;intro W' Y' mt' l';exact hK _ _ ⟨W',_,Y',mt',by lia,rfl,rfl⟩
end
section
variable {k:Nat} {aa aj:Store} {Q:V->Store->Prop} {X:XP} {A:Ad} {n root:Int} {bk bs M:Int->Int} {O:Int->Bool} {q dn:List Int} {T:List (Int×Int)} {one other:Int}
theorem zp3 {vs ks:List V}:AO.list vs≠.dict ks:=fun e=>by cases e
theorem Sa.dict (h:Sa aj aa A n root bk bs O q) {a:Addr} {D D':List V} (f:aj a=none) (ha:aa a=some (.dict D)):Sa aj (aa.upd a (.dict D')) A n root bk bs O q:=by
 have li:∀{b:Addr} {vs:List V},aa b=some (.list vs)->(aa.upd a (.dict D')) b=some (.list vs):=fun hb=>(zaf (za7 hb ha zp3)).trans hb;exact ⟨h.ext.upd f,(zaf (za7 h.top ha fun e=>by cases e)).trans h.top,(zaf (za7 h.dic ha fun e=>by cases e)).trans h.dic,li h.hb,li h.hs,li h.ho,li h.hw,h.fd,h.fb,h.fs,h.fo,h.fw,h.bs_,h.bo,h.bw,h.os,h.ow,h.ws⟩
theorem zd7 {v m c0 x:Int} {W0 ring0:List Int} {a:Addr} (h:Sa aj aa A n root bk bs O q) (hm:aj A.m=some (.list (zaD n.toNat M))) (w:Wk M bk root v W0 x) (bx:bs x=m) (nm:∀y∈W0,bs y≠m) (nd:W0.Nodup) (hl:W0.length<=40)
  (rx:0<=x/\x<n) (re:∀y∈ev W0,(0<=y/\y<n)/\(0<=M y/\M y<n)) (fa:aj a=none) (ha:aa a=some (.dict (ring0.map V.int))) (lr:ring0.length<=1000)
  (hQ:∀ac f (ring:List Int),Sa aj ac A n root f bs O q->(∀y,f y=mkb bk c0 W0 y)->ac a=some (.dict (ring.map V.int))->ring.length<=ring0.length+80->(∀b,b∈ring↔b∈ring0\/∃y∈W0,bs y=b)->Q .none ac) :
  (sem zae zaj (k+1) true).run "Search" "marked" [.ref A.sr,.int v,.int m,.int c0,.ref a] aa Q X:=by
 refine zag (F:=zbD) rfl ⟨rfl,?_⟩
 delta zbD
 refine zbc (fun t ad ac=>∃D W p c f ring,Mk M bk bs root v c0 x W0 ring0 D W p c f ring/\W.length+t<=40/\ring.length<=ring0.length+2*t/\Sa aj ac A n root f bs O q/\ac a=some (.dict (ring.map V.int))/\ad=[some (.ref A.sr),some (.int p),some (.int m),some (.int c),some (.ref a)]) 40
  ⟨[],W0,v,c0,bk,ring0,.init w,hl,qal _,h,ha,rfl⟩ ?_ ?_
 ·intro t ad ac zz50;refine ob65 zz50 ?_;clear zz50;intro D W p c f ring mk l1 l2 s hr ee236;subst ee236
  lia
 ·intro t ad ac K zz51;refine ob65 zz51 ?_;clear zz51;intro D W p c f ring mk l1 l2 s hr ee237;subst ee237;intro hK;have hp:p=x\/p∈ev W0:=mk.w.hd.imp id fun z=>by rw [mk.e,mk.d.evA];exact qap _ z
  have rp:0<=p/\p<n:=hp.elim (fun e=>e▸rx) fun z=>(re p z).1;simp only [zgz,zgs,zjs,zas];refine s.base rp (zaa (a := !(bs p==m)) rfl ?_);show if (!(bs p==m))=true then _ else _
  by_cases e:bs p=m
  ·rw [e,beq_self_eq_true];refine zl1 (c:=(!true)=true) qan ?_;have px:p=x:=hp.resolve_right fun z=>nm p (zax z) e;subst px;refine ob16 (mk.end fun z=>nm _ z bx) ?_;intro k1 k2;exact hQ ac f ring s k1 hr (by lia) k2
  ·rw [beq_eq_false_iff_ne.mpr e];refine zfc (c:=(!false)=true) rfl ?_;have px:p≠x:=fun z=>e (z▸bx);have r2:=re p (hp.resolve_left px)
   delta L_Search_marked_1
   refine s.base rp (za3 hr (by unfold zao;lia) ?_)
   have s1:=s.dict (D':=((if bs p∈ring then ring else ring++[bs p]).map V.int)) fa hr
   delta T_Search_marked_4
   refine s1.at rfl rfl (s1.mate hm rp (zcJ s1.hs r2.2.1 (by lia) (za3 zab ?_ ?_)))
   ·split<;>unfold zao
    ·lia
    ·rw [qat,List.length_singleton];lia
   rw [zbn];generalize hr1:(if bs p∈ring then ring else ring++[bs p])=ring1
   have m1:∀b,b∈ring1↔b∈ring\/b=bs p:=fun b=>by
    rw [←hr1];split
    ·exact ⟨.inl,fun y=>y.elim id fun e=>e ▸ ‹bs p∈ring›⟩
    ·rw [qao,qah]
   have t1:ring1.length<=ring.length+1:=by
    rw [←hr1];split
    ·lia
    ·rw [qat,List.length_singleton];exact qal _
   generalize hr2:(if bs (M p)∈ring1 then ring1 else ring1++[bs (M p)])=ring2
   have m2:∀b,b∈ring2↔b∈ring\/b=bs p\/b=bs (M p):=fun b=>by
    rw [←hr2,←or_assoc,←m1 b];split
    ·exact ⟨.inl,fun y=>y.elim id fun e=>e ▸ ‹bs (M p)∈ring1›⟩
    ·rw [qao,qah]
   have t2:ring2.length<=ring1.length+1:=by
    rw [←hr2];split
    ·lia
    ·rw [qat,List.length_singleton];exact qal _
   have s2:=s.dict (D':=(ring2.map V.int)) fa hr;have hr3:(ac.upd a (.dict (ring2.map V.int))) a=some (.dict (ring2.map V.int)):=zab;generalize ac.upd a (.dict (ring2.map V.int))=au at *;refine ob62 (mk.next nd px m2) ?_;intro D' W' mk' lw ef en J
   delta T_Search_marked_3
   refine s2.at rfl rfl (zjN s2.hb rp.1 (by lia) ?_)
   have s3:=s2.putB (bk':=fun j=>if j=p then c else f j)
   have hr4:(au.upd A.b (.list (zaD n.toNat fun j=>if j=p then c else f j))) a=some (.dict (ring2.map V.int)):=(zaf (za7 hr3 s2.hb fun e=>by cases e)).trans hr3
   generalize au.upd A.b (.list (zaD n.toNat fun j=>if j=p then c else f j))=ax at *
   delta T_Search_marked_2
   refine s3.mate hm rp ?_
   delta T_Search_marked_1
   refine s3.back r2.2 ?_;refine hK _ _ ⟨D',W',_,_,_,ring2,mk',by lia,by lia,s3,hr4,?_⟩
   show [_,some (V.int (if M p=p then c else f (M p))),_,_,_]=_
   rw [en]
end
section
variable {k:Nat} {aa aj:Store} {Q:V->Store->Prop} {X:XP} {A:Ad} {n root:Int} {bk bs M:Int->Int} {O:Int->Bool} {q dn:List Int} {T:List (Int×Int)} {one other:Int} {d r:Addr} {rs:List Addr}
noncomputable def bsJ (bs:Int->Int) (ring:List Int) (m:Int) (j:Nat) (x:Int):Int:=if 0<=x/\x<j/\bs x∈ring then m else bs x
noncomputable def oJ (bs:Int->Int) (O:Int->Bool) (ring:List Int) (j:Nat) (x:Int):Bool:=O x||decide (0<=x/\x<j/\bs x∈ring)
noncomputable def nwJ (bs:Int->Int) (O:Int->Bool) (ring:List Int) (j:Nat):List Int:=((List.range j).filter fun i:Nat => !O (i:Int)&&decide (bs (i:Int)∈ring)).map fun i:Nat=>(i:Int)
variable {ring:List Int} {j:Nat}
theorem zhV:nwJ bs O ring (j+1)=nwJ bs O ring j++(if (!O (j:Int)&&decide (bs (j:Int)∈ring))=true then [(j:Int)] else []):=by
 unfold nwJ;rw [List.range_succ,List.filter_append,List.map_append,List.filter_cons]
 split<;>rfl
theorem zjZ (o:O (j:Int)=false) (c:bs (j:Int)∈ring):nwJ bs O ring (j+1)=nwJ bs O ring j++[(j:Int)]:=by
 rw [zhV,o,qaf c];rfl
theorem zmK (h:O (j:Int)=true\/bs (j:Int)∉ring):nwJ bs O ring (j+1)=nwJ bs O ring j:=by
 rw [zhV]
 rcases h with h |h
 ·rw [h];exact List.append_nil _
 ·rw [qai h,Bool.and_false];exact List.append_nil _
theorem znx {x:Int}:x∈nwJ bs O ring j↔(0<=x/\x<j)/\O x=false/\bs x∈ring:=by
 unfold nwJ;rw [List.mem_map]
 constructor
 ·intro zz52;refine ob1 zz52 ?_;clear zz52;intro i hi ee238;subst ee238;rw [List.mem_filter,List.mem_range,qae,qaq,Bool.not_eq_true'] at hi;exact ⟨⟨by lia,by lia⟩,hi.2⟩
 ·intro zz53;refine ob66 zz53 ?_;clear zz53;intro h0 h1 h2 h3;refine ⟨x.toNat,?_,by lia⟩
  rw [List.mem_filter,List.mem_range,qae,qaq,Bool.not_eq_true',Int.toNat_of_nonneg h0];exact ⟨by lia,h2,h3⟩
theorem nwJ_nodup:(nwJ bs O ring j).Nodup:=
 List.pairwise_map.mpr ((List.nodup_range.sublist List.filter_sublist).imp fun h e=>h (by lia))
theorem zpr {m:Int} (h:bs j∈ring):bsJ bs ring m (j+1)=fun x:Int=>if x=(j:Int) then m else bsJ bs ring m j x:=funext fun x=>by
 unfold bsJ
 by_cases e:x=j
 ·rw [if_pos e,if_pos ⟨by lia,by lia,e▸h⟩]
 ·rw [if_neg e]
  by_cases c:0<=x/\x<j/\bs x∈ring
  ·rw [if_pos c,if_pos ⟨c.1,by lia,c.2.2⟩]
  ·rw [if_neg c,if_neg fun z=>c ⟨z.1,by lia,z.2.2⟩]
theorem zom {m:Int} (h:bs j∉ring):bsJ bs ring m (j+1)=bsJ bs ring m j:=funext fun x=>by
 unfold bsJ
 by_cases c:0<=x/\x<j/\bs x∈ring
 ·rw [if_pos c,if_pos ⟨c.1,by lia,c.2.2⟩]
 ·rw [if_neg c,if_neg fun z=>c ⟨z.1,?_,z.2.2⟩];have:x≠j:=fun e=>h (e▸z.2.2)
  lia
theorem zpL (h:bs j∈ring):oJ bs O ring (j+1)=fun x:Int=>oJ bs O ring j x||decide (x=(j:Int)):=funext fun x=>by
 unfold oJ;rw [Bool.or_assoc]
 congr 1
 rw [←Bool.decide_or];refine decide_eq_decide.mpr ⟨fun z=>?_,fun z=>z.elim (fun z=>⟨z.1,by lia,z.2.2⟩) fun z=>⟨by lia,by lia,z▸h⟩⟩
 by_cases e:x=j
 ·exact .inr e
 ·exact .inl ⟨z.1,by lia,z.2.2⟩
theorem zmJ (h:bs j∈ring->O j=true):oJ bs O ring (j+1)=oJ bs O ring j:=funext fun x=>by
 unfold oJ
 by_cases e:x=j
 ·subst e
  by_cases c:bs j∈ring
  ·rw [h c,Bool.true_or,Bool.true_or]
  ·rw [qai fun z=>c z.2.2,qai fun z=>c z.2.2]
 ·congr 1
  exact decide_eq_decide.mpr ⟨fun z=>⟨z.1,by lia,z.2.2⟩,fun z=>⟨z.1,by lia,z.2.2⟩⟩
theorem zlx {m:Int} {a:Addr} {N Y} {Q:V->Store->Prop} (hx:NetAt aj A.x d r rs n T) (h:Sa aj aa A n root bk bs O q) (hl:q.length<=40) (ha:aa a=some (.dict (ring.map V.int)))
  (hQ:∀ac ad,Sa aj ac A n root bk (bsJ bs ring m n.toNat) (oJ bs O ring n.toNat) (q++nwJ bs O ring n.toNat)->N ad ac) :
  wpSs (sem zae zaj k) true T_Search_shrink_3 [some (.ref A.sr),some (.int one),some (.int other),some (.int m),some (.ref a),none] aa N Q Y:=by
 have hlo:=hx.lo;have hhi:=hx.hi
 delta T_Search_shrink_3
 refine h.ground (zaX (hx.ext h.ext) ⟨by lia,?_⟩)
 refine zaF (fun j ad ac=>Sa aj ac A n root bk (bsJ bs ring m j) (oJ bs O ring j) (q++nwJ bs O ring j)/\ac a=some (.dict (ring.map V.int))/\∃t,ad=[some (.ref A.sr),some (.int one),some (.int other),some (.int m),some (.ref a),t]) ⟨?_,ha,_,rfl⟩ (fun J J J J=>trivial) ?_ ?_
 ·have e1:bsJ bs ring m 0=bs:=funext fun x=>if_neg fun z=>by lia
  have e2:oJ bs O ring 0=O:=funext fun x=>by unfold oJ;rw [qai fun z=>by lia,Bool.or_false]
  rw [e1,e2,show nwJ bs O ring 0=[] from rfl,List.append_nil];exact h
 ·intro j v ad ac K hv zz54;refine ob61 zz54 ?_;clear zz54;intro s hr t ee239;subst ee239;intro hK;refine ob16 (zbl hv) ?_;intro ee240;subst ee240;intro hj;rw [Int.zero_add] at hj ⊢;have rj:(0:Int)<=j/\(j:Int)<n:=⟨by lia,hj⟩
  have bj:bsJ bs ring m j j=bs j:=if_neg fun z=>by lia
  have oj:oJ bs O ring j j=O j:=by unfold oJ;rw [qai fun z=>by lia,Bool.or_false]
  delta L_Search_shrink_1
  refine s.base rj ?_;rw [bj,zcV,zbN hr]
  by_cases c:bs (j:Int)∈ring
  ·rw [qaf c];refine zaa rfl (zaI ?_);refine s.at rfl rfl (zjN s.hs rj.1 (by lia) ?_)
   have s1:=s.putS (bs':=fun x:Int=>if x=(j:Int) then m else bsJ bs ring m j x)
   rw [←zpr c] at s1 ⊢;have hr1:(ac.upd A.ba (.list (zaD n.toNat (bsJ bs ring m (j+1))))) a=some (.dict (ring.map V.int)):=(zaf (za7 hr s.hs fun e=>by cases e)).trans hr
   generalize ac.upd A.ba (.list (zaD n.toNat (bsJ bs ring m (j+1))))=am at *
   delta T_Search_shrink_2
   refine s1.outer (zku s1.ho rj.1 (by lia) ?_)
   rw [oj];cases o:O (j:Int) with
   |true=>
    refine go_b (zaq (hK _ _ ⟨?_,hr1,_,rfl⟩));rw [zmJ fun J=>o,zmK (.inl o)];exact s1
   |false=>
    refine go_b (zaI (s1.outer (zmI s1.ho rj.1 (by lia) ?_)))
    have s2:=s1.putO (O':=fun x:Int=>oJ bs O ring j x||decide (x=(j:Int)));rw [←zpL c] at s2 ⊢;have hr2:(am.upd A.o (.list (zcF n.toNat (oJ bs O ring (j+1))))) a=some (.dict (ring.map V.int)):=(zaf (za7 hr1 s1.ho fun e=>by cases e)).trans hr1
    generalize am.upd A.o (.list (zcF n.toNat (oJ bs O ring (j+1))))=au at *
    delta T_Search_shrink_1
    refine s2.waiting (zak s2.hw (zaJ s2.hw ?_ (hK _ _ ⟨?_,?_,_,rfl⟩)))
    ·have:(nwJ bs O ring j).length<=j:=by
      unfold nwJ;rw [qac];exact qak (List.length_filter_le ..) (by rw [List.length_range];exact qal _)
     rw [qac,qat];unfold zao;lia
    ·have:=s2.putW (q':=q++nwJ bs O ring (j+1));rw [zjZ o c,←List.append_assoc,List.map_append] at this;rw [zjZ o c,←List.append_assoc];exact this
    ·exact (zaf (za7 hr2 s2.hw fun e=>by cases e)).trans hr2
  ·rw [qai c];refine zaa rfl (zaq (hK _ _ ⟨?_,hr,_,rfl⟩));rw [zom c,zmJ fun z=>absurd z c,zmK (.inr c)];exact s
 ·intro ad ac zz55;refine ob19 zz55 ?_;clear zz55;intro s J J;rw [qac,za2] at s;exact hQ ac ad s
end
section
variable {k:Nat} {aa aj:Store} {Q:V->Store->Prop} {X:XP} {A:Ad} {n root:Int} {bk bs M:Int->Int} {O:Int->Bool} {q dn:List Int} {T:List (Int×Int)} {one other:Int} {d r:Addr} {rs:List Addr}
theorem Sg.ql (g:Sg n (Nb T) M bk bs O root dn q) (hn:n<=40):dn.length+q.length<=40:=by
 have:=za5 (m:=40) g.nod fun i hi=>by have:=g.rng ((g.que i).mpr hi);lia
 rw [qat] at this;exact this
theorem Side.re {v m x:Int} {W Y:List Int} (s:Side M bk bs O root v m W x Y) (g:Sg n (Nb T) M bk bs O root dn q):∀y∈ev W,(0<=y/\y<n)/\(0<=M y/\M y<n):=fun y hy=>
 ⟨g.rng (s.evo g.bl hy),g.mr (g.lab y (s.evo g.bl hy) (s.w.next hy).1).1⟩
theorem Side.wl {v m x:Int} {W Y:List Int} (s:Side M bk bs O root v m W x Y) (g:Sg n (Nb T) M bk bs O root dn q) (hn:n<=40):W.length<=40:=by
 have:=g.pl hn s.all s.o;rw [qat] at this;lia
theorem Rng.shr {B:Int->Int} {m x1 x2:Int} {W1 W2 X1 X2 ring:List Int} (R:Rng M bk bs B O root one other m x1 x2 W1 W2 X1 X2) (g:Sg n (Nb T) M bk bs O root dn q) (hr:∀b,b∈ring↔∃y,(y∈W1\/y∈W2)/\bs y=b) :
  Shr bs (bsJ bs ring m n.toNat) O (oJ bs O ring n.toNat) m W1 W2 (nwJ bs O ring n.toNat):=by
 have h1:∀x,bs x∈ring->Cm bs m W1 W2 x:=fun x hx=>.inr ((hr _).mp hx);have rW:∀y,y∈W1\/y∈W2->0<=y/\y<n:=fun y hy=>hy.elim (fun z=>g.pr R.s1.all R.s1.o y (qaw _ z)) fun z=>g.pr R.s2.all R.s2.o y (qaw _ z);have h2:∀x,Cm bs m W1 W2 x->(bs x=m/\O x=true)\/((0<=x/\x<n.toNat)/\bs x∈ring):=fun x hx=>by
  rcases hx with hx |hx
  ·refine .inl ⟨hx,?_⟩;cases o:O x with
   |true=>rfl
   |false=>rw [g.bl.ib x o] at hx;rw [hx,R.mo.1] at o;cases o
  ·refine .inr ⟨?_,(hr _).mpr hx⟩;refine ob1 hx ?_;clear hx;intro y hy e;have ry:=g.bsr (rW y hy);rw [e] at ry;cases o:O x with
   |true=>have:=g.rng o;lia
   |false=>rw [g.bl.ib x o] at ry;lia
 refine ⟨fun x hx=>?_,fun x hx=>if_neg fun z=>hx (h1 x z.2.2),fun x=>?_,fun x=>?_,nwJ_nodup⟩
 ·unfold bsJ
  rcases h2 x hx with z |z
  ·split
   ·rfl
   ·exact z.1
  ·exact if_pos ⟨z.1.1,z.1.2,z.2⟩
 ·unfold oJ;rw [Bool.or_eq_true,qaq];exact ⟨fun z=>z.imp id fun z=>h1 x z.2.2,fun z=>z.elim .inl fun z=>(h2 x z).imp (·.2) fun z=>⟨z.1.1,z.1.2,z.2⟩⟩
 ·rw [znx];exact ⟨fun z=>⟨z.2.1,h1 x z.2.2⟩,fun z=>(h2 x z.2).elim (fun y=>by rw [z.1] at y;exact Bool.noConfusion y.2) fun y=>⟨y.1,z.1,y.2⟩⟩
theorem zgW (hx:NetAt aj A.x d r rs n T) (h:Sa aj aa A n root bk bs O q) (hm:aj A.m=some (.list (zaD n.toNat M))) (g:Sg n (Nb T) M bk bs O root dn q) (o1:O one=true) (o2:O other=true) (e:Nb T one other)
  (hQ:∀ac B bs' O' nw,Sa aj ac A n root B bs' O' (q++nw)->Sg n (Nb T) M B bs' O' root dn (q++nw)->(∀x y,Lk bk bs O q x y->Lk B bs' O' (q++nw) x y)->bs' one=bs' other->Q .none ac) :
  (sem zae zaj (k+2) true).run "Search" "shrink" [.ref A.sr,.int one,.int other] aa Q X:=by
 have hhi:=hx.hi;refine zag (F:=zbC) rfl ⟨rfl,?_⟩
 delta zbC
 refine zah h.top h.dic ⟨⟨rfl,rfl⟩,zf5 h hm g hhi o1 o2 fun s D m W1 x1 X1 W2 x2 X2 hs s1 s2 dj=>?_⟩;have h1:=h.new (u:=.dict (D.map V.int)) hs;generalize aa.upd s (.dict (D.map V.int))=am at *
 delta T_Search_shrink_6
 intro a ha;have h2:=h1.new (u:=.dict []) ha;have fa:=h1.ext.none ha;have ha2:(am.upd a (.dict [])) a=some (.dict ([]:List V)):=zab;generalize am.upd a (.dict [])=au at *;have n1:=List.nodup_append.mp (s1.nd g.bl);have n2:=List.nodup_append.mp (s2.nd g.bl);have ap:∀y∈W1,y∉W2:=fun y hy z=>s1.apart s2 g.bl dj hy (qaw _ z)
 delta T_Search_shrink_5
 refine zah h2.top h2.dic ⟨⟨rfl,rfl⟩,zd7 (ring0:=[]) h2 hm s1.w s1.b s1.n n1.1 (s1.wl g hhi) (g.rng (s1.xo g.bl)) (s1.re g) fa ha2 (by decide) fun ax f3 ring3 h3 e3 hr3 l3 m3=>?_⟩
 delta T_Search_shrink_4
 have w3:Wk M f3 root other W2 x2:=s2.w.congr fun y hy=>(e3 y).trans (zcO fun z=>ap y (zax z) (zbT hy));refine zah h3.top h3.dic ⟨⟨rfl,rfl⟩,zd7 (ring0:=ring3) h3 hm w3 s2.b s2.n n2.1 (s2.wl g hhi) (g.rng (s2.xo g.bl)) (s2.re g) fa hr3 (by rw [List.length_nil] at l3;lia) fun ay f4 ring4 h4 e4 hr4 l4 m4=>?_⟩
 have R:Rng M bk bs f4 O root one other m x1 x2 W1 W2 X1 X2:=⟨g.bl,s1,s2,dj,⟨bk,fun y hy=>(e4 y).trans ((zcO fun z=>ap y (zax hy) (zax z)).trans (e3 y))⟩,⟨f3,fun y J=>e4 y⟩,fun y a b=>(e4 y).trans ((zcO b).trans ((e3 y).trans (zcO a)))⟩;have shr:=R.shr (ring:=ring4) g fun b=>by
  rw [m4 b,m3 b]
  constructor
  ·rintro ((z |⟨y,hy,z⟩) |⟨y,hy,z⟩)
   ·exact absurd z qam
   ·exact ⟨y,.inl hy,z⟩
   ·exact ⟨y,.inr hy,z⟩
  ·rintro ⟨y,hy |hy,z⟩
   ·exact .inl (.inr ⟨y,hy,z⟩)
   ·exact .inr ⟨y,hy,z⟩
 refine zlx hx h4 (by have:=g.ql hhi;lia) hr4 fun aJ ad h5=>?_
 exact hQ aJ f4 _ _ _ h5 (R.sg g e shr) (fun x y=>R.lk shr) (by rw [shr.h1 one R.c1,shr.h1 other R.sym.c1.sym])
end
section
variable {k:Nat} {aa aj:Store} {Q:V->Store->Prop} {X:XP} {A:Ad} {n root:Int} {bk bs M:Int->Int} {O:Int->Bool} {q dn:List Int} {T:List (Int×Int)} {p j:Int} {d r:Addr} {rs:List Addr}
theorem Sg.lkM (g:Sg n (Nb T) M bk bs O root dn q) (op:O p=true) (hj:0<=j) (e:M p=j):Lk bk bs O q p j:=by
 subst e;have nr:=(g.bn op hj).1;cases o:O (M p) with
 |true=>exact .inl (g.bl.same op nr o).symm
 |false=>exact .inr (.inl ⟨o,(g.lab p op nr).2⟩)
theorem Sg.outJ (g:Sg n (Nb T) M bk bs O root dn q) (h:j=root\/(0<=M j/\0<=bk (M j))):O j=true:=by
 rcases h with rfl |⟨h1,h2⟩
 ·exact g.bl.rt
 ·have k:=g.mt j h1;cases o:O (M j) with
  |true=>have:=g.mkd _ o h2;rwa [k.1] at this
  |false=>have:=(g.inn _ h2 o).2;rwa [k.1] at this
theorem zjJ (hx:NetAt aj A.x d r rs n T) (h:Sa aj aa A n root bk bs O q) (hm:aj A.m=some (.list (zaD n.toNat M))) (g:Sg n (Nb T) M bk bs O root dn q) (op:O p=true) (e:Nb T p j)
  (h2:∀ac,Sa aj ac A n root (fun x=>if x=j then p else bk x) bs O q->M j<0->O j=false->Q (.bool true) ac)
  (h3:∀ac bk' bs' O' q',Sa aj ac A n root bk' bs' O' q'->Sg n (Nb T) M bk' bs' O' root dn q'->(∀x y,Lk bk bs O q x y->Lk bk' bs' O' q' x y)->Lk bk' bs' O' q' p j->Q (.bool false) ac) :
  (sem zae zaj (k+3) true).run "Search" "step" [.ref A.sr,.int p,.int j] aa Q X:=by
 have hhi:=hx.hi;have rp:=g.rng op;have rj:0<=j/\j<n:=(g.gr _ _ (g.gr _ _ e).1).2.2;have stay:Lk bk bs O q p j->Q (.bool false) aa:=fun z=>h3 aa bk bs O q h g (fun J J=>id) z;have ql:=g.ql hhi;refine zag (F:=zcc) rfl ⟨rfl,?_⟩
 delta zcc
 refine h.base rp (h.base rj (zaa (a:=(bs p==bs j)) rfl ?_))
 by_cases e1:bs p=bs j
 ·rw [beq_iff_eq.mpr e1];exact zhm (zaI (stay (.inl e1)))
 rw [beq_eq_false_iff_ne.mpr e1];refine za0 (h.mate hm rp (zaa (a:=(M p==j)) rfl ?_))
 by_cases e2:M p=j
 ·rw [beq_iff_eq.mpr e2];exact zaI (stay (g.lkM op rj.1 e2))
 rw [beq_eq_false_iff_ne.mpr e2];refine zaq ?_;have shr:O j=true->wpSs (sem zae zaj (k+2)) true (.cons (.expr (.meth (.var 0) "shrink" (.cons (.var 1) (.cons (.var 2) .nil)))) T_Search_step_1) [some (.ref A.sr),some (.int p),some (.int j)] aa (fun aE ae=>wpSs (sem zae zaj (k+2)) true T_Search_step_7 aE ae (fun J ac=>Q .none ac) Q (fun c a J ac=>X c a ac)) Q (fun c a J ac=>X c a ac):=fun oj=>by
  delta T_Search_step_1
  exact zah h.top h.dic ⟨⟨rfl,rfl⟩,zgW hx h hm g op oj e fun ac B bs' O' nw s g' lk eb=>h3 ac B bs' O' _ s g' lk (.inl eb)⟩
 have next:j≠root->¬(0<=M j/\0<=bk (M j))->wpSs (sem zae zaj (k+2)) true T_Search_step_7 [some (.ref A.sr),some (.int p),some (.int j)] aa (fun J ac=>Q .none ac) Q (fun c a J ac=>X c a ac):=fun jr no=>by
  have oj:=g.fresh jr no
  delta T_Search_step_7
  refine h.back rj (zaa (a:=decide (0<=bk j)) rfl ?_)
  by_cases b:0<=bk j
  ·rw [qaf b];exact zaI (stay (.inr (.inl ⟨oj,b⟩)))
  rw [qai b];refine zaq ?_
  delta T_Search_step_6
  refine h.at rfl rfl (zjN h.hb rj.1 (by lia) ?_)
  have s1:=h.putB (bk':=fun x=>if x=j then p else bk x)
  generalize aa.upd A.b (.list (zaD n.toNat fun x=>if x=j then p else bk x))=am at *
  delta T_Search_step_5
  refine s1.mate hm rj (zaa (a:=decide (M j<0)) rfl ?_)
  by_cases m:M j<0
  ·rw [qaf m];exact zaI (h2 am s1 m oj)
  rw [qai m];refine zaq ?_;have m0:0<=M j:=by lia
  have rm:=g.mr m0
  delta T_Search_step_4
  refine s1.outer (s1.mate hm rj (zmI s1.ho rm.1 (by lia) ?_))
  have s2:=s1.putO (O':=fun x=>O x||decide (x=M j));generalize am.upd A.o (.list (zcF n.toNat fun x=>O x||decide (x=M j)))=au at *
  delta T_Search_step_3 T_Search_step_2
  refine s2.waiting (zak s2.hw (s2.mate hm rj (zaJ s2.hw (by rw [qac];unfold zao;lia) ?_)))
  have s3:=s2.putW (q':=q++[M j]);rw [List.map_append] at s3;refine h3 _ _ _ _ _ s3 (g.grow op e oj (by lia) m0 jr (by lia)) (fun x y z=>z.grow rp.1) (.inr (.inl ⟨?_,?_⟩))
  ·show (O j||decide (j=M j))=false;rw [oj,qai (g.gr _ _ (g.mt j m0).2).2.1];rfl
  ·show 0<=if j=j then p else bk j
   rw [if_pos rfl];exact rp.1
 delta T_Search_step_8
 refine h.rootA (zaa (a:=(j==root)) rfl ?_)
 by_cases jr:j=root
 ·rw [beq_iff_eq.mpr jr];exact zhm (zaI (shr (g.outJ (.inl jr))))
 rw [beq_eq_false_iff_ne.mpr jr];refine za0 (h.mate hm rj (zaa (a:=decide (0<=M j)) rfl ?_))
 by_cases m0:0<=M j
 ·rw [qaf m0];refine zaI (h.at rfl rfl (h.mate hm rj (zcJ h.hb (g.mr m0).1 (by have:=(g.mr m0).2;lia) (zaa (a:=decide (0<=bk (M j))) rfl ?_))))
  by_cases b0:0<=bk (M j)
  ·rw [qaf b0];exact zaI (shr (g.outJ (.inr ⟨m0,b0⟩)))
  ·rw [qai b0];exact zaq (next jr fun z=>b0 z.2)
 ·rw [qai m0];exact zaq (zaq (next jr fun z=>m0 z.1))
end
section
variable {k:Nat} {aa aj:Store} {Q:V->Store->Prop} {X:XP} {A:Ad} {n root:Int} {bk bs M:Int->Int} {O:Int->Bool} {q dn:List Int} {T:List (Int×Int)} {p j:Int} {d r:Addr} {rs:List Addr}
def zmy (T:List (Int×Int)) (M:Int->Int) (root:Int):Prop:=∀N:Int->Int,(∀i,0<=N i->N (N i)=i/\Nb T i (N i))->(∀i,0<=M i->0<=N i)->0<=N root->False
structure Hit (aj aa:Store) (A:Ad) (n root:Int) (T:List (Int×Int)) (M:Int->Int) (e:Int):Prop where
 ex:∃bk bs O q dn p,Sa aj aa A n root (fun x=>if x=e then p else bk x) bs O q/\Sg n (Nb T) M bk bs O root dn q/\O p=true/\Nb T p e/\M e<0/\O e=false
theorem zkz {t2:Option V} {N:Loc->Store->Prop} {Y} (hx:NetAt aj A.x d r rs n T) (h:Sa aj aa A n root bk bs O q) (hm:aj A.m=some (.list (zaD n.toNat M))) (g:Sg n (Nb T) M bk bs O root (dn++[p]) q)
  (lk:∀x∈dn,∀j,Nb T x j->Lk bk bs O q x j\/j=p)
  (h1:∀ac e,Hit aj ac A n root T M e->Q (.int e) ac)
  (hN:∀ac bk' bs' O' q' t2,Sa aj ac A n root bk' bs' O' q'->Sg n (Nb T) M bk' bs' O' root (dn++[p]) q'->(∀x∈dn++[p],∀j,Nb T x j->Lk bk' bs' O' q' x j)->N [some (.ref A.sr),some (.int p),t2] ac) :
  wpSs (sem zae zaj (k+3)) true T_Search_found_1 [some (.ref A.sr),some (.int p),t2] aa N Q Y:=by
 have op:O p=true:=(g.que p).mpr (qaw _ (qap _ (qah.mpr rfl)));have rp:=g.rng op
 delta T_Search_found_1
 refine h.ground (zoO hx h.ext rp.1 rp.2 fun a ha=>?_);simp only [zb6];refine zak (h.ext _ _ ha) ?_;refine zaF (fun i ad ac=>∃bk' bs' O' q',(Sa aj ac A n root bk' bs' O' q'/\Sg n (Nb T) M bk' bs' O' root (dn++[p]) q')/\(∀x∈dn,∀j,Nb T x j->Lk bk' bs' O' q' x j\/j=p)/\(∀j∈(zaw (nb T p)).take i,Lk bk' bs' O' q' p j)/\∃t,ad=[some (.ref A.sr),some (.int p),t])
  ⟨bk,bs,O,q,⟨h,g⟩,lk,fun j hj=>absurd hj qam,_,rfl⟩ ?_ ?_ ?_
 ·intro i ad ac zz56;refine ob67 zz56 ?_;clear zz56;intro bk' bs' O' q' s J J J J ee241;subst ee241;exact s.ext _ _ ha
 ·intro i v ad ac K hv zz57;refine ob67 zz57 ?_;clear zz57;intro bk' bs' O' q' s g' l1 l2 t ee242;subst ee242;intro hK;refine ob1 (zhn hv) ?_;intro j ee243;subst ee243;intro hj;have e:Nb T p j:=mem_sortI.mp (qav hj);have op':O' p=true:=(g'.que p).mpr (qaw _ (qap _ (qah.mpr rfl)))
  delta L_Search_found_1
  refine zah s.top s.dic ⟨⟨rfl,rfl⟩,zjJ hx s hm g' op' e (fun au s2 m o=>?_) fun au bk2 bs2 O2 q2 s2 g2 lk2 lj=>?_⟩
  ·exact zaI (h1 au j ⟨_,_,_,_,_,_,s2,g',op',e,m,o⟩)
  ·refine zaq (hK _ _ ⟨bk2,bs2,O2,q2,⟨s2,g2⟩,fun x hx y hy=>(l1 x hx y hy).imp (lk2 x y) id,fun y hy=>?_,_,rfl⟩);refine ob14 (List.getElem?_eq_some_iff.mp hj) ?_;intro hi ee244;subst ee244;rw [List.take_succ_eq_append_getElem hi] at hy
   rcases qao.mp hy with hy |hy
   ·exact lk2 p y (l2 y hy)
   ·rw [qah.mp hy];exact lj
 ·intro ad ac zz58;refine ob67 zz58 ?_;clear zz58;intro bk' bs' O' q' s g' l1 l2 t ee245;subst ee245;rw [qac,List.take_length] at l2;have lp:∀j,Nb T p j->Lk bk' bs' O' q' p j:=fun j hj=>l2 j (mem_sortI.mpr hj);refine hN ac bk' bs' O' q' t s g' fun x hx y hy=>?_
  rcases qao.mp hx with xd |xd
  ·rcases l1 x xd y hy with z |z
   ·exact z
   ·have ox:O' x=true:=(g'.que x).mpr (qaw _ (qaw _ xd));rw [z] at hy ⊢
    rcases lp x (zcN hy) with z |z |z
    ·exact .inl z.symm
    ·rw [ox] at z;cases z.1
    ·exact absurd rfl ((List.nodup_append.mp g'.nod).2.2 x (qaw _ xd) x z)
  ·rw [qah.mp xd] at hy ⊢;exact lp y hy
theorem zjc (hx:NetAt aj A.x d r rs n T) (h:Sa aj aa A n root bk bs O q) (hm:aj A.m=some (.list (zaD n.toNat M))) (g:Sg n (Nb T) M bk bs O root [] q)
  (h1:∀ac w e,Hit aj ac { A with w:=w } n root T M e->Q (.int e) ac)
  (h2:∀ac,Ext aj ac->zmy T M root->Q (.int (-1)) ac) :
  (sem zae zaj (k+4) true).run "Search" "found" [.ref A.sr] aa Q X:=by
 have hhi:=hx.hi;refine zag (F:=zbS) rfl ⟨rfl,?_⟩
 delta zbS
 refine zbc (fun t ad ac=>∃w bk bs O dn q,(Sa aj ac { A with w:=w } n root bk bs O q/\Sg n (Nb T) M bk bs O root dn q)/\dn.length=t/\(∀x∈dn,∀j,Nb T x j->Lk bk bs O q x j)/\∃t1 t2,ad=[some (.ref A.sr),t1,t2]) 40
  ⟨A.w,bk,bs,O,[],q,⟨h,g⟩,rfl,fun x hx=>absurd hx qam,_,_,rfl⟩ ?_ ?_
 ·intro t ad ac zz59;refine ob68 zz59 ?_;clear zz59;intro w bk bs O dn q s g ee246;subst ee246;intro J;have:=g.ql hhi;lia
 ·intro t ad ac K zz60;refine lift fun g9 k9=>?_;obtain ⟨w,bk,bs,O,dn,q,⟨s,g⟩,rfl,lk,t1,t2,rfl⟩:=zz60
  apply k9
  clear k9 g9;intro hK;simp only [zgz,zjs,zas];refine s.waiting ?_;simp only [zcQ s.hw,qac,zkN,zas];cases q with
  |nil=>
   refine zaq ?_
   delta T_Search_found_3
   exact h2 ac s.ext fun N a b c=>g.dead lk a b c
  |cons p q=>
   rw [qaf (by rw [List.length_cons];lia)]
   refine zaI ?_
   delta L_Search_found_2
   refine s.waiting (zaG s.hw (by decide) rfl ?_)
   delta T_Search_found_2
   refine s.waiting (zlw s.hw (by decide) (by rw [qac,List.length_cons];lia) fun w2 hw2=>?_)
   have s2:=s.newW (q':=q) hw2;have nn:∀{a:Addr} {u:AO},ac a=some u->a≠w2:=fun ha=>zaH ha hw2;refine zah ((zaf (nn s.top)).trans s.top) ((zaf (nn s.dic)).trans s.dic) ⟨⟨sfld rfl,Nat.le_of_ble_eq_true rfl⟩,?_⟩;have g2:Sg n (Nb T) M bk bs O root (dn++[p]) q:=⟨g.bl,g.gr,g.mt,g.rr,g.lab,g.adj,g.inn,fun v=>by rw [g.que v,List.append_assoc];rfl,by rw [List.append_assoc];exact g.nod,g.mkd⟩
   refine zkz (A:={ A with w:=w2 }) hx s2 hm g2 (fun x hx y hy=>?_) (fun ax e hit=>h1 ax w2 e hit) fun ax bk3 bs3 O3 q3 t3 s3 g3 lk3=>hK _ _ ⟨w2,bk3,bs3,O3,dn++[p],q3,⟨s3,g3⟩,by rw [qat];rfl,lk3,_,_,rfl⟩
   rcases lk x hx y hy with z |z |z
   ·exact .inl (.inl z)
   ·exact .inl (.inr (.inl z))
   ·rcases qad.mp z with z |z
    ·exact .inr z
    ·exact .inl (.inr (.inr z))
end
section
variable {k:Nat} {aa aj:Store} {Q:V->Store->Prop} {X:XP} {A:Ad} {n root e:Int} {bk bs M:Int->Int} {O:Int->Bool} {q dn:List Int} {T:List (Int×Int)} {p j:Int} {d r:Addr} {rs:List Addr}
theorem zm9:(zae "" "road").isSome=true:=rfl
theorem Sg.way (g:Sg n (Nb T) M bk bs O root dn q) (op:O p=true) (ep:Nb T p e) (me:M e<0) (oe:O e=false) {L:List Int} (u:Up M bk root p L):WayOk n T M (e::L):=by
 have l:=u.len;have nd:=g.bl.nd op u;have el:e∉L:=fun z=>by
  rcases zbV z with z |z
  ·rw [g.bl.evO u op e z] at oe;cases oe
  ·refine ob6 (u.odd z) ?_;intro c hc nc ee247;subst ee247;have oc:=g.bl.evO u op c hc;rw [(g.bl.mt c oc nc).1] at me;have:=(g.rng oc).1;lia
 refine ⟨by rw [List.length_cons];lia,by rw [List.length_cons];lia,fun x hx=>?_,qar.mpr ⟨el,nd⟩,fun a ha=>by cases ha;exact me,fun a ha=>?_,fun i a b ha hb=>?_⟩
 ·rcases qad.mp hx with rfl |hx
  ·exact (g.gr _ _ (g.gr _ _ ep).1).2.2
  ·exact g.pr u op x hx
 ·rw [List.length_cons,Nat.add_sub_cancel,show L.length=(L.length-1)+1 by lia,List.getElem?_cons_succ,l.2.1] at ha
  cases ha;exact g.rr.2
 ·cases i with
  |zero=>
   cases ha;rw [List.getElem?_cons_succ,l.2.2] at hb;cases hb;exact ⟨(g.gr _ _ ep).1,fun z=>by have:=(g.rng op).1;lia,fun z=>absurd z (by decide)⟩
  |succ i=>
   rw [List.getElem?_cons_succ] at ha hb;refine ob16 (g.steps u op nd i a b ha hb) ?_;intro s1 s2;exact ⟨s1,s2.trans (by lia)⟩
theorem zjO (hm:aj A.m=some (.list (zaD n.toNat M))) (hn:n<=40) (hit:Hit aj aa A n root T M e)
  (hQ:∀a W,aa a=none->WayOk n T M W->Q (.ref a) (aa.upd a (.list (W.map V.int)))):(sem zae zaj (k+1) true).run "" "road" [.ref A.sr,.int e] aa Q X:=by
 refine ob65 hit.ex ?_;intro bk bs O q dn p h g op ep me oe;refine ob14 (g.bl.upL op) ?_;intro L u;have way:=g.way op ep me oe u;have wl:(e::L).length<=40:=za5 (m:=40) way.nod fun i hi=>by have:=way.inn i hi;lia
 have od':∀y,O y=true->y≠root->M y≠e:=fun y oy ny z=>by
  rw [←z,(g.bl.mt y oy ny).1] at me;have:=(g.rng oy).1;lia
 have re:0<=e/\e<n:=(g.gr _ _ (g.gr _ _ ep).1).2.2;refine zag (F:=zk6) rfl ⟨rfl,?_⟩
 delta zk6
 refine ⟨Nat.zero_le _,fun a ha=>?_⟩;have s:∀{D:List V},Sa aj (aa.upd a (.list D)) A n root (fun x=>if x=e then p else bk x) bs O q:=fun {D}=>h.new ha
 delta T_road_4
 refine zbc (fun t ad ac=>∃F y R,F++R=e::L/\F.length=2*t/\((y<0/\R=[])\/((0<=y/\y<n)/\∃R',R=y::R'/\O (if y=e then p else bk y)=true/\Up M bk root (if y=e then p else bk y) R'))/\ac=aa.upd a (.list (F.map V.int))/\ad=[some (.ref A.sr),some (.int y),some (.ref a)]) 40
  ⟨[],e,e::L,rfl,rfl,.inr ⟨re,L,rfl,by rw [if_pos rfl];exact op,by rw [if_pos rfl];exact u⟩,rfl,rfl⟩ ?_ ?_
 ·intro t ad ac zz61;refine ob10 zz61 ?_;clear zz61;intro F y R ef lf J;have:=congrArg List.length ef;rw [qat] at this
  lia
 ·intro t ad ac K zz62;refine ob5 zz62 ?_;clear zz62;intro F y R ef lf hy ee248;subst ee248;intro ee249;subst ee249;intro hK;simp only [zgz,zgs,zjs,zas];refine zaa (a:=decide (0<=y)) rfl ?_;show if decide (0<=y)=true then _ else _
  rcases hy with ⟨hy,rfl⟩ |⟨ry,R',rfl,ou,up⟩
  ·rw [qai (by lia)]
   refine zl1 (c:=false=true) qan ?_
   delta T_road_3
   rw [List.append_nil] at ef;subst ef;exact hQ a _ ha way
  ·rw [qaf ry.1];refine zfc (c:=true=true) rfl ?_;have lf2:=congrArg List.length ef;rw [qat,List.length_cons] at lf2
   delta L_road_1
   refine zak zab (zaJ zab (by rw [qac];unfold zao;lia) ?_)
   rw [zbn,show F.map V.int++[V.int y]=(F++[y]).map V.int by rw [List.map_append];rfl]
   delta T_road_2
   refine zak zab (s.back ry (zaJ zab (by rw [qac,qat,List.length_singleton];unfold zao;lia) ?_))
   generalize hu:(if y=e then p else bk y)=v at *
   rw [zbn,show (F++[y]).map V.int++[V.int v]=(F++[y,v]).map V.int by rw [List.map_append,List.map_append,List.append_assoc];rfl]
   delta T_road_1
   refine s.at rfl rfl (s.back ry ?_);show idxV _ (.int (if y=e then p else bk y)) _ _
   rw [hu];refine zcJ (s.ext _ _ hm) (g.rng ou).1 (by have:=(g.rng ou).2;lia) (hK _ _ ?_)
   cases up with
   |root=>exact ⟨F++[y,root],M root,[],by rw [List.append_nil];exact ef,by rw [qat];show _+2=_;lia,.inl ⟨g.rr.2,rfl⟩,rfl,rfl⟩
   | @step _ R2 nr u2=>
    have lb:=g.lab v ou nr;have ne:=od' v ou nr;refine ⟨F++[y,v],M v,M v::R2,by rw [List.append_assoc];exact ef,by rw [qat];show _+2=_;lia,.inr ⟨g.mr lb.1,R2,rfl,by rw [if_neg ne];exact g.bl.nx v ou nr,by rw [if_neg ne];exact u2⟩,rfl,rfl⟩
end
theorem zmm (hd:Disj P) {p q:Int×Int} (hp:p∈P) (hq:q∈P) (h:Touch p q):p=q:=by
 induction P with
 |nil=>cases hp
 |cons a r ih=>
  have hd':=List.pairwise_cons.mp hd
  rcases qad.mp hp with rfl |hp'<;>rcases qad.mp hq with rfl |hq'
  ·rfl
  ·exact absurd h (hd'.1 q hq')
  ·exact absurd h.symm (hd'.1 p hp')
  ·exact ih hd'.2 hp' hq'
theorem zbU:∀{l l':List Int},l.Nodup->(∀x∈l,x∈l')->l.length<=l'.length
 | [],_,_,_=>Nat.zero_le _
 |a::l,l',h,hs=>by
  refine ob16 (qar.mp h) ?_;intro h1 h2;have ha:=hs a (qaj ..);have:=zbU (l':=l'.erase a) h2 fun x hx=>(List.mem_erase_of_ne (fun e:x=a=>h1 (e▸hx))).mpr (hs x (qag _ hx));rw [List.length_erase_of_mem ha] at this;have:=List.length_pos_of_mem ha;rw [List.length_cons];lia
theorem zbF {n:Int} (ht:∀p∈P,zap n p) (hd:Disj P):(places P).Nodup:=by
 unfold places;rw [List.nodup_append];refine ⟨List.pairwise_map.mpr (hd.imp fun {p q} h e=>h (.inl e)),List.pairwise_map.mpr (hd.imp fun {p q} h e=>h (.inr (.inr (.inr e)))),?_⟩;intro a ha b hb e;refine ob1 (List.mem_map.mp ha) ?_;intro p hp ee250;subst ee250;refine ob1 (List.mem_map.mp hb) ?_;intro q hq ee251;subst ee251;cases zmm hd hp hq (.inr (.inl e));have:=(ht p hp).2.1
 lia
structure Mt (n:Int) (T:List (Int×Int)) (M:Int->Int):Prop where
 ok:∀p∈T,zap n p
 back:∀i,0<=M i->M (M i)=i/\M i∈nb T i
section
variable {n:Int} {T P:List (Int×Int)} {M:Int->Int} {W:List Int}
theorem zbj (ok:∀p∈T,zap n p) (hs:∀p∈P,p∈T) (hd:Disj P):Mt n T (mt P.reverse):=by
 have ht:∀p∈P.reverse,zap n p:=fun p hp=>ok p (hs p (List.mem_reverse.mp hp));refine ⟨ok,fun i hi=>?_⟩
 rcases ze9 ht hd.rev i with ⟨p,hp,h⟩ |⟨_,h⟩
 ·refine ob16 (zlN ht hd.rev p hp) ?_;intro m1 m2;have hT:=hs p (List.mem_reverse.mp hp)
  rcases h with ⟨rfl,h⟩ |⟨rfl,h⟩
  ·rw [h,m2];exact ⟨rfl,mem_nb.mpr (.inl hT)⟩
  ·rw [h,m1];exact ⟨rfl,mem_nb.mpr (.inr hT)⟩
 ·rw [h] at hi;lia
set_option tactic.hygienic true in
theorem mem_toldL {p:Int×Int}:p∈zbo n.toNat M↔(0<=p.1/\p.1<n)/\p.1<p.2/\M p.1=p.2:=by
 unfold zbo;rw [List.mem_filterMap]
 constructor
 ·intro zz63;refine ob1 zz63 ?_;clear zz63;intro i hi e;rw [List.mem_range] at hi
  split at e
  ·rename_i h;cases e;exact ⟨by lia,h,rfl⟩
  ·cases e
 ·intro zz64;refine ob19 zz64 ?_;clear zz64;intro h0 h1 h2;refine ⟨p.1.toNat,List.mem_range.mpr (by lia),?_⟩
  rw [Int.toNat_of_nonneg h0.1,if_pos (by rw [h2];exact h1),h2]
theorem zgT (h:Mt n T M):∀p∈zbo n.toNat M,p∈T:=by
 intro p hp;refine ob19 (mem_toldL.mp hp) ?_;intro h0 h1 h2;have:=(h.back p.1 (by lia)).2
 rw [h2] at this
 rcases mem_nb.mp this with g |g
 ·exact g
 ·have:=(h.ok _ g).2.1;simp only at this;lia
theorem zdS (h:Mt n T M):Disj (zbo n.toNat M):=by
 have key:∀p∈zbo n.toNat M,∀q∈zbo n.toNat M,Touch p q->p=q:=by
  intro p hp q hq t;refine ob19 (mem_toldL.mp hp) ?_;intro p0 p1 p2;refine ob19 (mem_toldL.mp hq) ?_;intro q0 q1 q2;have p3:=(h.back p.1 (by lia)).1
  have q3:=(h.back q.1 (by lia)).1
  rw [p2] at p3;rw [q2] at q3
  rcases t with t |t |t |t
  ·rw [t] at p2;exact Prod.ext t (p2.symm.trans q2)
  ·rw [t,q3] at p2;lia
  ·rw [t,q2] at p3;lia
  ·rw [t,q3] at p3;exact Prod.ext p3.symm t
 refine List.Pairwise.imp_of_mem ?_ zbd;intro p q hp hq hl t;cases key p hp q hq t;unfold zaK at hl;lia
theorem zbz (h:Mt n T M) {i:Int}:i∈places (zbo n.toNat M)↔0<=M i:=by
 rw [mem_places]
 constructor
 ·intro zz65;refine ob1 zz65 ?_;clear zz65;intro p hp e;refine ob19 (mem_toldL.mp hp) ?_;intro p0 p1 p2
  rcases e with rfl |rfl
  ·lia
  ·have:=(h.back p.1 (by lia)).1
   rw [p2] at this;lia
 ·intro hi;refine ob16 (h.back i hi) ?_;intro b1 b2;refine ob19 (zcG h.ok b2) ?_;intro i0 m0 hne
  by_cases e:i<M i
  ·exact ⟨(i,M i),mem_toldL.mpr ⟨i0,e,rfl⟩,.inl rfl⟩
  ·exact ⟨(M i,i),mem_toldL.mpr ⟨m0,by simp only;lia,b1⟩,.inr rfl⟩
theorem ziD (h:Mt n T M) (hW:WayOk n T M W) {a:Int} (ha:a∈W) (hM:0<=M a):M a∈W:=by
 refine lift fun g9 k9=>?_;obtain ⟨k,hk,e⟩:=List.getElem_of_mem ha
 apply k9
 clear k9 g9;have e':W[k]?=some a:=by rw [qas hk,e]
 have ev:=hW.even
 by_cases hk1:k%2=1
 ·have hk2:k+1<W.length:=by
   by_cases z:k=W.length-1
   ·subst z;exact absurd (hW.lst a e') (Int.not_lt.mpr hM)
   ·lia
  have:=(hW.stp k a _ e' (qas hk2)).2.mpr hk1;rw [this];exact List.getElem_mem hk2
 ·have hk0:k≠0:=fun z=>by subst z;exact absurd (hW.fst a e') (Int.not_lt.mpr hM)
  have hk3:k-1<W.length:=by lia
  have g:=hW.stp (k-1) _ a (qas hk3) (by rw [show k-1+1=k by lia];exact e')
  have g2:=g.2.mpr (by lia)
  refine ob19 (zcG h.ok g.1) ?_;intro J a0 J;have:=(h.back W[k-1] (by rw [g2];exact a0.1)).1
  rw [g2] at this;rw [this];exact List.getElem_mem hk3
theorem zcz (hW:WayOk n T M W) (i:Int):(i∈W/\∃j,mtB M (steps W).reverse i=j/\mtB M (steps W).reverse j=i/\j∈nb T i)\/(i∉W/\mtB M (steps W).reverse i=M i):=by
 refine ob16 (zeC hW.nod) ?_;intro d1 d2;have r2:∀p∈(steps W).reverse,p.1≠p.2:=fun p hp=>d2 p (List.mem_reverse.mp hp)
 by_cases hi:i∈W
 ·left
  refine ⟨hi,?_⟩;refine lift fun g9 k9=>?_;refine ob1 (zdY hW.even i hi) ?_;intro p hp e;refine ob16 (zmM (M:=M) r2 d1.rev p (List.mem_reverse.mpr hp)) ?_;intro m1 m2;refine ob1 ((zd4 W p.1 p.2).mp hp) ?_;intro j j1 j2
  apply k9
  clear k9 g9;have hn:=(hW.stp _ _ _ j1 j2).1
  rcases e with rfl |rfl
  ·exact ⟨p.2,m1,m2,hn⟩
  ·exact ⟨p.1,m2,m1,zcN hn⟩
 ·right
  refine ⟨hi,zj6 fun p hp=>?_⟩;refine ob16 (zhP (List.mem_reverse.mp hp)) ?_;intro s1 s2;exact ⟨fun e=>hi (e▸s1),fun e=>hi (e▸s2)⟩
theorem zeB (h:Mt n T M) (hW:WayOk n T M W):Mt n T (mtB M (steps W).reverse):=by
 refine ⟨h.ok,fun i hi=>?_⟩
 rcases zcz hW i with ⟨_,j,e1,e2,e3⟩ |⟨hi',e⟩
 ·rw [e1];exact ⟨e2,e3⟩
 ·rw [e] at hi ⊢;refine ob16 (h.back i hi) ?_;intro b1 b2;refine ob19 (zcG h.ok b2) ?_;intro i0 J J;refine ⟨?_,b2⟩
  rcases zcz hW (M i) with ⟨m,_⟩ |⟨_,e'⟩
  ·have:=ziD h hW m (by rw [b1];lia)
   rw [b1] at this;exact absurd this hi'
  ·rw [e',b1]
theorem zjy (ok:∀p∈T,zap n p) (hs:∀p∈P,p∈T) (hd:Disj P) (hW:WayOk n T (mt P.reverse) W):P.length<(zbo n.toNat (mtB (mt P.reverse) (steps W).reverse)).length:=by
 have hM:=zbj ok hs hd;have hM':=zeB hM hW;have ht:∀p∈P,zap n p:=fun p hp=>ok p (hs p hp);have l0:0<W.length:=by have:=hW.two;lia
 have w0:=hW.fst _ (qas l0);have wm:W[0]∈W:=List.getElem_mem l0;have in0:=hW.inn _ wm;have hnd:(W[0]::places P).Nodup:=qar.mpr ⟨(zf4 ht hd _).mp w0,zbF ht hd⟩;have:=zbU (l':=places (zbo n.toNat (mtB (mt P.reverse) (steps W).reverse))) hnd fun x hx=>by
  rw [zbz hM'];have key:x∈W->0<=mtB (mt P.reverse) (steps W).reverse x:=fun hw=>by
   rcases zcz hW x with ⟨_,j,e1,_,e3⟩ |⟨no,_⟩
   ·rw [e1];exact (zcG ok e3).2.1.1
   ·exact absurd hw no
  rcases qad.mp hx with rfl |hx
  ·exact key wm
  ·by_cases hw:x∈W
   ·exact key hw
   ·rcases zcz hW x with ⟨hw',_⟩ |⟨_,e⟩
    ·exact absurd hw' hw
    ·rw [e];have:¬mt P.reverse x<0:=fun z=>(zf4 ht hd x).mp z hx
     lia
 simp only [places,List.length_cons,qat,qac] at this
 lia
end
section
variable {k:Nat} {aa:Store} {Q:V->Store->Prop} {X:XP} {x d r l:Addr} {rs:List Addr} {n:Int} {T P:List (Int×Int)}
theorem zfN:(zae "" "better").isSome=true:=rfl
theorem zhN:(zae "" "grown").isSome=true:=rfl
theorem zjE:(zae "" "most").isSome=true:=rfl
theorem zm1 {M:Int->Int} {W:List Int} (h:WayOk n T M W) (hn:n<=40):W.length<=40:=za5 (m:=40) h.nod fun i hi=>by have:=h.inn i hi;lia
def Full (n:Int) (T:List (Int×Int)) (M:Int->Int):Prop:=∀root,0<=root->root<n->M root<0->zmy T M root
theorem zpM (ok:∀p∈T,zap n p):Gr n (Nb T):=fun i j h=>by
 have:=zcG ok h;exact ⟨zcN h,this.2.2,this.1⟩
theorem Sg.start {M:Int->Int} (h:Mt n T M) {root:Int} (h0:0<=root/\root<n) (hf:M root<0):Sg n (Nb T) M (fun J=>-1) (fun i=>i) (fun i=>decide (i=root)) root [] [root]:=
 ⟨Bl.init,zpM h.ok,h.back,⟨h0,hf⟩,fun v o e=>absurd (of_decide_eq_true o) e,fun x hx=>absurd hx (by decide),fun x hx=>absurd hx (by decide),fun v=>by rw [List.nil_append,qah,qaq],qar.mpr ⟨qam,.nil⟩,fun w J hw=>absurd hw (by decide)⟩
theorem zeo (hx:NetAt aa x d r rs n T) (hl:aa l=some (.list (P.map pr))) (hs:∀p∈P,p∈T) (hd:Disj P)
  (h1:∀ac a W,Ext aa ac->aa a=none->ac a=some (.list (W.map V.int))->WayOk n T (mt P.reverse) W->Q (.ref a) ac)
  (h2:∀ac,Ext aa ac->Full n T (mt P.reverse)->Q .none ac):(sem zae zaj (k+5) true).run "" "better" [.ref x,.ref l] aa Q X:=by
 have hlo:=hx.lo;have hhi:=hx.hi;have hM:=zbj hx.ok hs hd;refine zag (F:=zfE) rfl ⟨rfl,?_⟩
 delta zfE zau zhL
 refine zeM hx hl hs hd fun f hf=>?_;have hE:=(Ext.rfl (aa:=aa)).upd (o:=.list (zaD n.toNat (mt P.reverse))) hf;have hf1:(aa.upd f (.list (zaD n.toNat (mt P.reverse)))) f=some (.list (zaD n.toNat (mt P.reverse))):=zab;generalize aa.upd f (.list (zaD n.toNat (mt P.reverse)))=am at *;generalize mt P.reverse=M at *;have hx1:=hx.ext hE
 delta T_better_4
 refine zaX hx1 ⟨by lia,?_⟩
 refine zaF (fun t ad ac=>Ext am ac/\(∀root:Int,0<=root->root<t->M root<0->zmy T M root)/\∃t3 t4 t5,ad=[some (.ref x),some (.ref l),some (.ref f),t3,t4,t5])
  ⟨.rfl,fun root h0 h1=>by lia,_,_,_,rfl⟩ (fun J J J J=>trivial) ?_ ?_
 ·intro t v ad ac K hv zz66;refine ob69 zz66 ?_;clear zz66;intro hE1 hall t3 t4 t5 ee252;subst ee252;intro hK;refine ob16 (zbl hv) ?_;intro ee253;subst ee253;intro ht;rw [Int.zero_add] at ht ⊢;have hx2:=hx1.ext hE1;have hf2:=hE1 _ _ hf1
  delta L_better_1
  refine zcJ hf2 (by lia) (by lia) (zaa (a:=decide (M t<0)) rfl ?_)
  have more:∀{ax:Store} {t4 t5:Option V},Ext am ax->(M t<0->zmy T M t)->K [some (.ref x),some (.ref l),some (.ref f),some (.int t),t4,t5] ax:=fun {ax t4 t5} e g=>by
   refine hK _ _ ⟨e,fun root h0 h1 hf=>?_,_,_,_,rfl⟩
   by_cases z:root=t
   ·subst z;exact g hf
   ·exact hall root h0 (by lia) hf
  by_cases hM0:M t<0
  ·rw [qaf hM0];refine zaI ?_
   delta zau zoC
   intro sr ds hsr hds hne;have sb:Sb ac ((ac.upd ds (.ns [])).upd sr (.inst "Search" ds)) sr ds []:=⟨(Ext.rfl.upd hds).upd hsr,zab,(zaf (Ne.symm hne)).trans zab,hds⟩;refine zlC hx2 sb fun au A sa e1 e2 e3 e4=>⟨rfl,?_⟩;subst e1 e2 e3 e4
   delta T_better_2
   refine zah sa.top sa.dic ⟨⟨rfl,rfl⟩,zjc hx2 sa hf2 (Sg.start hM ⟨by lia,ht⟩ hM0) (fun ax w e hit=>?_) fun ax e3 dead=>?_⟩
   ·have e0:0<=e:=by
     refine ob70 hit.ex ?_;intro J J J J J J J g J ep J;exact (g.gr _ _ (g.gr _ _ ep).1).2.2.1
    have e3:Ext ac ax:=by
     refine ob71 hit.ex ?_;intro J J J J J J s J;exact s.ext
    delta T_better_1
    refine zaa (a:=decide (0<=e)) rfl ?_;rw [qaf e0];refine zaI ?_
    delta zau zm9
    refine zjO (A:={ A with w:=w }) hf2 hhi hit fun a W ha hW=>?_;exact h1 _ a W (((hE.trans hE1).trans e3).upd ((hE.trans hE1).none (e3.none ha))) ((hE.trans hE1).none (e3.none ha)) zab hW
   ·delta T_better_1
    refine zaa (a:=decide ((0:Int) <= -1)) rfl (zaq ?_);exact more (hE1.trans e3) fun J=>dead
  ·rw [qai hM0];exact zaq (more hE1 fun z=>absurd z hM0)
 ·intro ad ac zz67;refine ob69 zz67 ?_;clear zz67;intro hE1 hall t3 t4 t5 ee254;subst ee254;rw [qac,za2] at hall
  delta T_better_3
  exact h2 _ (hE.trans hE1) fun root h0 h1 hf=>hall root h0 (by lia) hf
theorem zeS (hx:NetAt aa x d r rs n T) (hl:aa l=some (.list (P.map pr))) (hs:∀p∈P,p∈T) (hd:Disj P) (hp:P.Pairwise zaK)
  (hQ:∀ac a P',Ext aa ac->(a=l\/aa a=none)->ac a=some (.list (P'.map pr))->(∀p∈P',p∈T)->Disj P'->P'.Pairwise zaK->Full n T (mt P'.reverse)->Q (.ref a) ac):(sem zae zaj (k+6) true).run "" "grown" [.ref x,.ref l] aa Q X:=by
 have hlo:=hx.lo;have hhi:=hx.hi;refine zag (F:=zhz) rfl ⟨rfl,?_⟩
 delta zhz zau zfN
 have fin:∀{ac:Store} {v:V},(v=.none/\Full n T (mt P.reverse))\/(∃a W,v=.ref a/\ac a=some (.list (W.map V.int))/\WayOk n T (mt P.reverse) W)->Ext aa ac ->
   wpSs (sem zae zaj (k+5)) true T_grown_3 [some (.ref x),some (.ref l),some v] ac (fun J ac=>Q .none ac) Q (fun c a J ac=>X c a ac):=fun {ac v} hv hE=>by
  delta T_grown_3
  refine zbc (fun t ad ac=>∃P' l' v,Ext aa ac/\(l'=l\/aa l'=none)/\ac l'=some (.list (P'.map pr))/\(∀p∈P',p∈T)/\Disj P'/\P'.Pairwise zaK/\t<=P'.length/\((v=.none/\Full n T (mt P'.reverse))\/(∃a W,v=.ref a/\ac a=some (.list (W.map V.int))/\WayOk n T (mt P'.reverse) W))/\ad=[some (.ref x),some (.ref l'),some v]) 40
   ⟨P,l,v,hE,.inl rfl,hE _ _ hl,hs,hd,hp,Nat.zero_le _,hv,rfl⟩ ?_ ?_
  ·intro t ad ac zz68;refine lift fun g9 k9=>?_;obtain ⟨P',l',v,-,-,-,s',d',-,ht,-⟩:=zz68
   apply k9
   clear k9 g9;exact qak ht (zcD (fun p hp=>hx.ok p (s' p hp)) d' (by lia) hhi)
  ·intro t ad ac K zz69;refine lift fun g9 k9=>?_;obtain ⟨P',l',v,e',fr,hl',s',d',p',ht,hv,rfl⟩:=zz69
   apply k9
   clear k9 g9;intro hK;simp only [zgz,zgs,zjs,zas,zjh,zcK]
   rcases hv with ⟨rfl,hF⟩ |⟨a,W,rfl,ha,hW⟩
   ·refine zl1 (c:=(!true)=true) (by decide) ?_
    delta T_grown_2
    exact hQ _ _ _ e' fr hl' s' d' p' hF
   ·refine zfc (c:=(!false)=true) rfl ?_
    delta L_grown_1 zau zjC
    have hlen:=zm1 hW hhi;refine zgS (hx.ext e') hl' s' d' ha (by lia) hW fun au b e2 hb hb2=>?_
    delta T_grown_1 zau zfN
    have hM':=zeB (zbj hx.ok s' d') hW;have hmore:=zjy hx.ok s' d' hW;have s2:=zgT hM';have d2:=zdS hM';have p2:=zbd (n:=n.toNat) (M:=mtB (mt P'.reverse) (steps W).reverse);generalize zbo n.toNat (mtB (mt P'.reverse) (steps W).reverse)=P2 at *;refine zeo (hx.ext (e'.trans e2)) hb2 s2 d2 ?_ ?_
    ·intro ax a3 W3 e3 J ha3 hW3;exact hK _ _ ⟨P2,b,_,(e'.trans e2).trans e3,.inr (e'.none hb),e3 _ _ hb2,s2,d2,p2,by lia,.inr ⟨a3,W3,rfl,ha3,hW3⟩,rfl⟩
    ·intro ax e3 hF;exact hK _ _ ⟨P2,b,_,(e'.trans e2).trans e3,.inr (e'.none hb),e3 _ _ hb2,s2,d2,p2,by lia,.inl ⟨rfl,hF⟩,rfl⟩
 refine zeo hx hl hs hd ?_ ?_
 ·intro ax a3 W3 e3 J ha3 hW3;exact fin (.inr ⟨a3,W3,rfl,ha3,hW3⟩) e3
 ·intro ax e3 hF;exact fin (.inl ⟨rfl,hF⟩) e3
theorem zj7 (hx:NetAt aa x d r rs n T)
  (hQ:∀ac a P',Ext aa ac->aa a=none->ac a=some (.list (P'.map pr))->(∀p∈P',p∈T)->Disj P'->P'.Pairwise zaK->Full n T (mt P'.reverse)->Q (.ref a) ac):(sem zae zaj (k+7) true).run "" "most" [.ref x] aa Q X:=by
 refine zag (F:=zk7) rfl ⟨rfl,?_⟩
 delta zk7 zau zhN
 refine ⟨by simp [zao],fun a ha=>?_⟩
 refine zeS (P:=[]) (hx.upd ha) zab (by simp) .nil .nil fun ac b P' e fr=>hQ ac b P' ((Ext.rfl.upd ha).trans e) (fr.elim (fun z=>z▸ha) fun z=>(zlh z).2)
end
section
variable {n:Int} {T P:List (Int×Int)} {M:Int->Int}
def Pg (T P:List (Int×Int)):Prop:=(∀p∈P,p∈T)/\Disj P
def Bst (T P:List (Int×Int)):Prop:=Pg T P/\∀P',Pg T P'->P'.length<=P.length
theorem zkL (nd:(places P).Nodup) (h:∀i,i∈places P↔0<=M i) (hr:∀i,0<=M i->0<=i/\i<n):cov M n.toNat=2*P.length:=by
 have hl:(places P).length=2*P.length:=by
  unfold places;rw [qat,qac,qac];lia
 rw [←hl];unfold cov cnt;rw [List.countP_eq_length_filter,←qac (f:=fun i:Nat=>(i:Int))]
 apply Nat.le_antisymm
 ·refine zbU (List.pairwise_map.mpr ((List.nodup_range.filter _).imp fun h e=>h (by lia))) fun x hx=>?_
  refine ob1 (List.mem_map.mp hx) ?_;intro i hi ee255;subst ee255;exact (h _).mpr (of_decide_eq_true (List.mem_filter.mp hi).2)
 ·refine zbU nd fun x hx=>?_;have hx:=(h x).mp hx;have r:=hr x hx;have e:=Int.toNat_of_nonneg r.1;exact List.mem_map.mpr ⟨x.toNat,List.mem_filter.mpr ⟨List.mem_range.mpr (by lia),by rw [e];exact qaf hx⟩,e⟩
theorem Mt.mg (h:Mt n T M):Mg n.toNat (Nb T) M:=fun i hi=>by
 have b:=h.back i hi;have r:=zcG h.ok b.2;exact ⟨⟨r.1.1,by lia⟩,b.1,b.2⟩
theorem Mt.cov (h:Mt n T M):cov M n.toNat=2*(zbo n.toNat M).length:=
 zkL (zbF (fun p hp=>h.ok p (zgT h p hp)) (zdS h)) (fun i=>zbz h) fun i hi=>(zcG h.ok (h.back i hi).2).1
theorem Pg.ok (ok:∀p∈T,zap n p) (h:Pg T P):∀p∈P,zap n p:=fun p hp=>ok p (h.1 p hp)
theorem Pg.cov (ok:∀p∈T,zap n p) (h:Pg T P):cov (mt P.reverse) n.toNat=2*P.length:=by
 refine zkL (zbF (h.ok ok) h.2) (fun i=>?_) fun i hi=>(zcG ok ((zbj ok h.1 h.2).back i hi).2).1;have:=zf4 (h.ok ok) h.2 i;exact ⟨fun m=>Classical.byContradiction fun z=>this.mp (by lia) m,fun z=>Classical.byContradiction fun m=>by have:=this.mpr m;lia⟩
theorem Mt.pg (h:Mt n T M):Pg T (zbo n.toNat M):=⟨zgT h,zdS h⟩
theorem Pg.sort (ok:∀p∈T,zap n p) (h:Pg T P):∃P',Pg T P'/\P'.Pairwise zaK/\P'.length=P.length/\∀i,i∈places P'->i∈places P:=by
 have v:=zbj ok h.1 h.2;have:=v.cov;rw [h.cov ok] at this;exact ⟨_,v.pg,zbd,by lia,fun i hi=>Classical.byContradiction fun z=>by have:=(zbz v).mp hi;have:=(zf4 (h.ok ok) h.2 i).mpr z;lia⟩
theorem zh9 (ok:∀p∈T,zap n p) (h:Pg T P) (f:Full n T (mt P.reverse)):Bst T P:=by
 refine ⟨h,fun P' h'=>Classical.byContradiction fun no=>?_⟩;have c1:=h.cov ok;have c2:=h'.cov ok;obtain ⟨N,hN,all,r,rr,fr,nr⟩:=Mg.cover2 (fun i j e=>⟨zcN e,(zcG ok e).2.2⟩) (zbj ok h.1 h.2).mg _ (zbj ok h'.1 h'.2).mg (by rw [c1,c2];lia) (Nat.lt_succ_self _)
 exact f r rr.1 (by lia) fr N (fun i hi=>(hN i hi).2) all nr
variable {i:Int}
theorem Bst.take (ok:∀p∈T,zap n p) (h:Bst T P) {j:Int} (hij:Nb T i j):∃P',Bst T P'/\i∈places P'/\P'.Pairwise zaK:=by
 have v:=zbj ok h.1.1 h.1.2;have cM:=h.1.cov ok;have fin:∀N:Int->Int,Mg n.toNat (Nb T) N->Mine.Internal.cov (mt P.reverse) n.toNat<=Mine.Internal.cov N n.toNat->0<=N i->∃P',Bst T P'/\i∈places P'/\P'.Pairwise zaK:=fun N hN hc hi=>by
  have v':Mt n T N:=⟨ok,fun x hx=>(hN x hx).2⟩;have:=v'.cov;exact ⟨_,⟨v'.pg,fun P' h'=>qak (h.2 P' h') (by lia)⟩,(zbz v').mpr hi,zbd⟩
 have g:=v.mg;clear cM;generalize mt P.reverse=M at *
 by_cases hi:0<=M i
 ·exact fin M g (qal _) hi
 refine ob19 (zcG ok hij) ?_;intro ri rj ne;have zi:M j≠i:=fun e=>hi (by have:=(g j (by lia)).2.1;rw [e] at this;lia)
 have zj:M j≠j:=fun e=>by
  have:=(g j (by lia)).2.2
  rw [e] at this;exact (zcG ok this).2.2 rfl
 let N:Int->Int:=fun x=>if x=i then j else if x=j then i else if x=M j then -1 else M x
 have v1:N i=j:=if_pos rfl;have v2:N j=i:=(if_neg (Ne.symm ne)).trans (if_pos rfl);have v3:N (M j) = -1:=(if_neg zi).trans ((if_neg zj).trans (if_pos rfl));have v4:∀x,x≠i->x≠j->x≠M j->N x=M x:=fun x a b c=>(if_neg a).trans ((if_neg b).trans (if_neg c));have hN:Mg n.toNat (Nb T) N:=g.put (z:=M j) ⟨ri.1,by lia⟩ ⟨rj.1,by lia⟩ hij (zcN hij) v1 v2 (.inr (by rw [v3];decide)) v4 fun x hx a b c=>by
  have gx:=(g x hx).2.1;exact ⟨fun e=>hi (by rw [←e,gx];have:=(g x hx).1.1;lia),fun e=>c (by rw [←e,gx]),fun e=>b (by rw [←gx,e,(g j (by lia)).2.1])⟩
 refine fin N hN ?_ (by rw [v1];exact rj.1)
 have le:∀x,x≠i->x≠M j->decide (0<=N x)=decide (0<=M x)\/x=j:=fun x a c=>by
  by_cases b:x=j
  ·exact .inr b
  ·exact .inl (by rw [v4 x a b c])
 by_cases hj:0<=M j
 ·have rz:=(g (M j) (by rw [(g j hj).2.1];exact rj.1)).1
  refine Nat.le_of_eq (zfp ri.1 (by lia) rz.1 rz.2 (Ne.symm zi) (qai hi) (qaf (by rw [v1];exact rj.1)) (qaf (by rw [(g j hj).2.1];exact rj.1)) (qai (by rw [v3];decide)) fun x a c=>?_).symm
  rcases le x a c with e |e
  ·exact e
  ·rw [e,v2,qaf ri.1,qaf hj]
 ·refine zgq fun x h0 h1 hx=>?_
  by_cases a:x=i
  ·rw [a,v1];exact qaf rj.1
  rcases le x a (by lia) with e |e
  ·rw [e];exact hx
  ·rw [e,v2];exact qaf ri.1
theorem zcA:∀{T P:List (Int×Int)},T.Pairwise zaK->P.Pairwise zaK->(∀p∈P,p∈T)->P.Sublist T
 | [],P,_,_,h=>by rw [List.eq_nil_iff_forall_not_mem.mpr fun p hp=>absurd (h p hp) qam];exact List.nil_sublist _
 |t::T,[],_,_,_=>List.nil_sublist _
 |t::T,p::P,hT,hP,h=>by
  have hT':=List.pairwise_cons.mp hT;have hP':=List.pairwise_cons.mp hP
  by_cases e:p=t
  ·subst e;refine (zcA hT'.2 hP'.2 fun q hq=>?_).cons_cons p
   rcases qad.mp (h q (qag _ hq)) with z |z
   ·have:=hP'.1 q hq;rw [z] at this;unfold zaK at this;lia
   ·exact z
  ·have hp:=(qad.mp (h p (qaj ..))).resolve_left e;refine (zcA hT'.2 hP fun q hq=>?_).cons t
   rcases qad.mp (h q hq) with z |z
   ·have l1:=hT'.1 p hp
    rcases qad.mp hq with y |y
    ·exact absurd (y.symm.trans z) e
    ·have l2:=hP'.1 q y;rw [z] at l2;unfold zaK at l1 l2;lia
   ·exact z
noncomputable def fr (t:Int×Int) (L:List (Int×Int)):Bool := !(L.any fun p=>(t.1==p.1||t.1==p.2)||(t.2==p.1||t.2==p.2))
theorem fr_iff {t:Int×Int} {L:List (Int×Int)}:fr t L=true↔∀p∈L,¬Touch p t:=by
 unfold fr;rw [Bool.not_eq_true',List.any_eq_false];refine ⟨fun h p hp c=>h p hp ?_,fun h p hp c=>h p hp ?_⟩
 ·rw [Bool.or_eq_true,Bool.or_eq_true,Bool.or_eq_true,beq_iff_eq,beq_iff_eq,beq_iff_eq,beq_iff_eq];unfold Touch at c;lia
 ·rw [Bool.or_eq_true,Bool.or_eq_true,Bool.or_eq_true,beq_iff_eq,beq_iff_eq,beq_iff_eq,beq_iff_eq] at c;unfold Touch;lia
def All (T:List (Int×Int)) (F:List (List (Int×Int))):Prop:=(∀L∈F,Pg T L)/\∀L,L.Sublist T->Disj L->L∈F
theorem All.nil:All [] [[]]:=⟨fun L hL=>by rw [qah.mp hL];exact ⟨fun p hp=>hp,.nil⟩,fun L h J=>qah.mpr (List.sublist_nil.mp h)⟩
theorem All.step {F:List (List (Int×Int))} (h:All T F) {t:Int×Int}:All (T++[t]) (F++(F.filter (fr t)).map (· ++ [t])):=by
 refine ⟨fun L hL=>?_,fun L hL hd=>?_⟩
 ·rcases qao.mp hL with hL |hL
  ·exact ⟨fun p hp=>qaw _ ((h.1 L hL).1 p hp),(h.1 L hL).2⟩
  ·refine ob1 (List.mem_map.mp hL) ?_;intro L hL' ee256;subst ee256;refine ob16 (List.mem_filter.mp hL') ?_;intro hL hf;refine ⟨fun p hp=>?_,List.pairwise_append.mpr ⟨(h.1 L hL).2,List.pairwise_singleton _ _,fun p hp q hq=>?_⟩⟩
   ·rcases qao.mp hp with hp |hp
    ·exact qaw _ ((h.1 L hL).1 p hp)
    ·exact qap _ hp
   ·rw [qah.mp hq];exact fr_iff.mp hf p hp
 ·refine ob2 (List.sublist_append_iff.mp hL) ?_;intro L1 L2 ee257;subst ee257;intro h1 h2;have hd':=List.pairwise_append.mp hd;have h2':L2=[]\/L2=[t]:=by
   cases h2 with
   |cons _ h=>exact .inl (List.sublist_nil.mp h)
   |cons_cons _ h=>exact .inr (by rw [List.sublist_nil.mp h])
  rcases h2' with rfl |rfl
  ·rw [List.append_nil];exact qaw _ (h.2 L1 h1 hd'.1)
  ·exact qap _ (List.mem_map.mpr ⟨L1,List.mem_filter.mpr ⟨h.2 L1 h1 hd'.1,fr_iff.mpr fun p hp=>hd'.2.2 p hp t (qah.mpr rfl)⟩,rfl⟩)
def Bsts (T:List (Int×Int)) (B:List (List (Int×Int))):Prop:=(∀L∈B,Bst T L)/\∀L,L.Pairwise zaK->Bst T L->L∈B
theorem All.best (hT:zb0 n T) {F:List (List (Int×Int))} (h:All T F) {m:Int} (h1:∃L∈F,(L.length:Int)=m) (h2:∀L∈F,(L.length:Int)<=m):Bsts T (F.filter fun L=>(L.length:Int)==m):=by
 have key:∀P,Pg T P->(P.length:Int)<=m:=fun P hP=>by
  refine ob8 (hP.sort hT.2) ?_;intro P' g s e J;have:=h2 P' (h.2 P' (zcA hT.1 s g.1) g.2)
  lia
 refine ⟨fun L hL=>?_,fun L s hL=>?_⟩
 ·refine ob16 (List.mem_filter.mp hL) ?_;intro hL e;have e:=beq_iff_eq.mp e;exact ⟨h.1 L hL,fun P' h'=>by have:=key P' h';lia⟩
 ·refine List.mem_filter.mpr ⟨h.2 L (zcA hT.1 s hL.1.1) hL.1.2,beq_iff_eq.mpr ?_⟩;refine ob1 h1 ?_;clear h1;intro L' hL' e;have:=hL.2 L' (h.1 L' hL');have:=key L hL.1
  lia
def Bd (T:List (Int×Int)) (i:Int):Prop:=∀L,Bst T L->i∈places L
noncomputable def bd (T:List (Int×Int)) (i:Int):Bool:=@decide (Bd T i) (Classical.propDecidable _)
theorem zkU (h:Bd T i):bd T i=true:=@decide_eq_true _ (Classical.propDecidable _) h
theorem zim (h:¬Bd T i):bd T i=false:=@decide_eq_false _ (Classical.propDecidable _) h
noncomputable def cut (i:Int) (T:List (Int×Int)):List (Int×Int):=T.filter fun p => !(i==p.1||i==p.2)
theorem mem_cut {p:Int×Int}:p∈cut i T↔p∈T/\¬(p.1=i\/p.2=i):=by
 unfold cut;rw [List.mem_filter,Bool.not_eq_true',Bool.or_eq_false_iff,beq_eq_false_iff_ne,beq_eq_false_iff_ne];exact ⟨fun h=>⟨h.1,fun e=>e.elim (fun e=>h.2.1 e.symm) fun e=>h.2.2 e.symm⟩,fun h=>⟨h.1,fun e=>h.2 (.inl e.symm),fun e=>h.2 (.inr e.symm)⟩⟩
theorem zpu {P1 P2:List (Int×Int)} (h1:Bst (cut i T) P1) (h2:Bst T P2):bd T i=decide (P1.length<P2.length):=by
 have up:∀{P},Pg (cut i T) P->Pg T P:=fun h=>⟨fun p hp=>(mem_cut.mp (h.1 p hp)).1,h.2⟩;have:Bd T i↔P1.length<P2.length:=by
  constructor
  ·intro h;refine Classical.byContradiction fun no=>?_;have b1:Bst T P1:=⟨up h1.1,fun P' h'=>qak (h2.2 P' h') (by lia)⟩
   refine ob1 (mem_places.mp (h P1 b1)) ?_;intro p hp e;exact (mem_cut.mp (h1.1.1 p hp)).2 e
  ·intro lt L hL;refine Classical.byContradiction fun no=>?_;have:=h1.2 L ⟨fun p hp=>mem_cut.mpr ⟨hL.1.1 p hp,fun e=>no (mem_places.mpr ⟨p,hp,e⟩)⟩,hL.1.2⟩;have:=hL.2 P2 h2.1
   lia
 by_cases c:P1.length<P2.length
 ·rw [qaf c,zkU (this.mpr c)]
 ·rw [qai c,zim fun z=>c (this.mp z)]
noncomputable def srt (T:List (Int×Int)) (i:Int):String:=if (nb T i).isEmpty then "loose" else if bd T i then "bound" else "free"
noncomputable def hs (i:Int) (L:List (Int×Int)):Bool:=L.any fun p=>i==p.1||i==p.2
end
section
variable {k:Nat} {aa:Store} {Q:V->Store->Prop} {X:XP} {x d r l:Addr} {rs:List Addr} {n:Int} {T P:List (Int×Int)} {i:Nat}
theorem ziG:(zae "" "leaving").isSome=true:=rfl
theorem zpa {i:Int} {p:Int×Int}:inV aa (.int i) (pr p)=some (i==p.1||i==p.2):=by
 show some ((p.1==i)||((p.2==i)||false))=_;rw [Bool.or_false,Bool.beq_comm (a:=p.1),Bool.beq_comm (a:=p.2)]
theorem zbp {c:Addr} {vs:List V} {K:List V->(Store->Prop)->Prop} (h:aa c=some (.list vs)) (g:K vs fun ac=>ac c=some (.list vs)):zb6 (.ref c) aa K:=by
 show zaL aa (.ref c) fun a vs=>K vs fun ac=>ac a=some (.list vs);exact zak h g
theorem zkk {K:Option V->Store->Prop} {c:Bool} {v:V} (h:K (if c=true then some v else none) aa):if c=true then K (some v) aa else K none aa:=by
 cases c
 ·exact h
 ·exact h
theorem zbk {α:Type} {chk:Store->Prop} {B:V->Store->(Option V->Store->Prop)->Prop} {L:List α} {g h:α->V} {c:α->Bool} (hc:∀ac,Ext aa ac->chk ac) (hl:L.length<=zao)
  (hB:∀x∈L,∀ac,Ext aa ac->∀K:Option V->Store->Prop,(∀aD,Ext ac aD->K (if c x=true then some (h x) else none) aD)->B (g x) ac K)
  (q:∀ac a,Ext aa ac->aa a=none->ac a=some (.list ((L.filter c).map h))->Q (.ref a) ac):zbR chk B Q (L.map g) [] aa:=by
 have key:∀(L':List α) (acc:List V) (ac:Store),(∀x∈L',x∈L)->Ext aa ac->acc.length+L'.length<=zao->acc++(L'.filter c).map h=(L.filter c).map h->zbR chk B Q (L'.map g) acc ac:=by
  intro L'
  induction L' with
  |nil=>
   intro acc ac J e J eq;refine ⟨hc _ e,fun a ha=>?_⟩;rw [List.filter_nil,List.map_nil,List.append_nil] at eq;exact q _ a (e.upd (e.none ha)) (e.none ha) (by rw [zab,eq])
  |cons x L' ih=>
   intro acc ac hs e hn eq;rw [List.length_cons] at hn;refine ⟨hc _ e,by lia,hB x (hs x (qaj ..)) ac e _ fun aD e'=>?_⟩
   rw [List.filter_cons] at eq
   by_cases z:c x=true
   ·rw [if_pos z] at eq ⊢;exact ih _ _ (fun y hy=>hs y (qag _ hy)) (e.trans e') (by rw [qat,List.length_singleton];lia) (by rw [←eq,List.map_cons,List.append_assoc];rfl)
   ·rw [if_neg z] at eq ⊢;exact ih _ _ (fun y hy=>hs y (qag _ hy)) (e.trans e') (show acc.length+_<=_ by lia) eq
 exact key L [] aa (fun x hx=>hx) .rfl (by rw [List.length_nil];lia) rfl
theorem zgy (hx:NetAt aa x d r rs n T) (hQ:∀ac a P',Ext aa ac->ac a=some (.list (P'.map pr))->Bst T P'->P'.Pairwise zaK->Q (.ref a) ac):(sem zae zaj (k+7) true).run "" "most" [.ref x] aa Q X:=
 zj7 hx fun ac a P' e J ha s d p f=>hQ ac a P' e ha (zh9 hx.ok ⟨s,d⟩ f) p
theorem zgb (hx:NetAt aa x d r rs n T) (hT:T.Pairwise zaK) (hTl:T.length<=1600) (hi:(i:Int)<n)
  (hQ:∀ac v,Ext aa ac->noB v=bd T i->Q v ac):(sem zae zaj (k+8) true).run "" "leaving" [.ref x,.int i] aa Q X:=by
 have hlo:=hx.lo;have hhi:=hx.hi;refine zag (F:=zet) rfl ⟨rfl,?_⟩
 delta zet
 refine zah hx.top hx.dic ⟨⟨rfl,tb_beside⟩,?_⟩;refine zb8 hx hi fun b hb=>?_;have e1:=(Ext.rfl (aa:=aa)).upd (o:=.list ((zaw (nb T i)).map V.int)) hb;generalize aa.upd b (.list ((zaw (nb T i)).map V.int))=am at *;have hx1:=hx.ext e1
 delta T_leaving_4 drp zau zdW
 refine zaX hx1 ?_;refine zah hx1.top hx1.dic ⟨⟨rfl,tb_ties⟩,?_⟩;refine zaV hx1 fun c hc=>?_;rw [zaW ⟨hT,hx.ok⟩ (List.Perm.refl _)];have e2:=(Ext.rfl (aa:=am)).upd (o:=.list (T.map pr)) hc;have hc2:(am.upd c (.list (T.map pr))) c=some (.list (T.map pr)):=zab;generalize am.upd c (.list (T.map pr))=au at *;refine zbp hc2 ?_;refine zbk (c:=fun p:Int×Int => !(((i:Int)==p.1)||((i:Int)==p.2))) (h:=pr) (fun ac e=>e _ _ hc2) (by unfold zao;lia) (fun p J ac J K hK=>?_) ?_
 ·exact zaa (a := !(((i:Int)==p.1)||((i:Int)==p.2))) (by rw [zaN,zpa];rfl) (zkk (hK _ .rfl))
 intro ax w e3 hw hw3 y dy hy hdy hyd;have hx3:=hx1.ext (e2.trans e3);have hwy:w≠y:=zaH hw3 hy;have hwd:w≠dy:=zaH hw3 hdy;have hlen:(cut i T).length<=T.length:=List.length_filter_le ..;have hok:∀p∈cut i T,zap n p:=fun p hp=>hx.ok p (mem_cut.mp hp).1;have hno:(cut i T).Nodup:=hx.nod.filter _;refine zdb (d:=dy) (H:=cut i T) zab (by rw [zaf hyd.symm,zab]) hyd ((zaf hwy).trans ((zaf hwd).trans hw3)) hlo hhi hno hok (by lia) ?_
 intro ay r' rs' hF hd' hR hr hrs hrr;have e4:=zcB hy hdy hF;have hN:NetAt ay y dy r' rs' n (cut i T):=⟨hF y _ hyd zab,hd',hR,hlo,hhi,hno,hok⟩;refine ⟨rfl,?_⟩
 delta T_leaving_3 zau zjE
 refine zgy hN fun aJ a P1 e5 ha5 b1 J=>?_
 delta T_leaving_2 zau zjE
 simp only [zcQ ha5,qac];have hx5:=hx3.ext (e4.trans e5);refine zgy hx5 fun aH a6 P2 e6 ha6 b2 J=>?_;have fin:=zpu b1 b2;have E:=(((e1.trans (e2.trans e3)).trans (e4.trans e5)).trans e6);simp only [zcQ ha6,qac];refine zaa (a:=decide ((P1.length:Int)<P2.length)) rfl ?_
 by_cases c:P1.length<P2.length
 ·rw [qaf (by lia:(P1.length:Int)<P2.length)]
  rw [qaf c] at fin;exact zaI (hQ _ _ E fin.symm)
 ·rw [qai (by lia:¬(P1.length:Int)<P2.length)]
  rw [qai c] at fin;refine zaq ?_
  delta T_leaving_1
  exact hQ _ _ E fin.symm
end
section
variable {k:Nat} {aa:Store} {Q:V->Store->Prop} {X:XP} {x d r l:Addr} {rs:List Addr} {n:Int} {T P:List (Int×Int)} {i:Nat}
theorem zlo:(zae "" "fence").isSome=true:=rfl
noncomputable def fc (T:List (Int×Int)) (i:Int):Bool:=bd T i&&(nb T i).any fun j => !bd T j
noncomputable def fen (t:Nat) (T:List (Int×Int)):List Int:=((List.range t).map fun i:Nat=>(i:Int)).filter (fc T)
theorem zme {t:Nat}:fen (t+1) T=fen t T++if fc T t=true then [(t:Int)] else []:=by
 unfold fen;rw [List.range_succ,List.map_append,List.filter_append,List.map_singleton,List.filter_cons,List.filter_nil]
theorem znR {t:Nat}:(fen t T).length<=t:=by
 refine qak (List.length_filter_le ..) ?_;rw [qac,List.length_range];exact qal _
theorem zle:(upto 0 n 1).map V.int=(List.range n.toNat).map fun i:Nat=>V.int i:=by
 have e1:((n-0+1-1)/1).toNat=n.toNat:=by rw [Int.ediv_one];lia
 unfold upto;rw [if_pos (by decide),List.map_map,e1]
 refine List.map_congr_left fun i J=>?_;show V.int (0+1*(i:Int))=_;rw [Int.zero_add,Int.one_mul]
theorem zmt {f:Int->Bool} {l:List Int}:(zaw l).any f=l.any f:=by
 rw [Bool.eq_iff_iff,List.any_eq_true,List.any_eq_true];exact ⟨fun ⟨x,h,e⟩=>⟨x,mem_sortI.mp h,e⟩,fun ⟨x,h,e⟩=>⟨x,mem_sortI.mpr h,e⟩⟩
theorem zgv {α:Type} {f:α->Bool} {l:List α}:bools? (l.map fun x=>V.bool (f x))=some (l.map f):=by
 induction l with
 |nil=>rfl
 |cons a l ih=>
  show (bools? (l.map fun x=>V.bool (f x))).map (f a :: ·)=_;rw [ih];rfl
theorem zpw {a:Addr} {α:Type} {f:α->Bool} {l:List α} (h:aa a=some (.list (l.map fun x=>V.bool (f x)))) (q:Q (.bool (l.any f)) aa):b1V true .any (.ref a) aa Q:=by
 refine ⟨rfl,zak h (zaa zgv ?_)⟩;rw [List.any_map];exact q
theorem zje (hx:NetAt aa x d r rs n T) (hT:T.Pairwise zaK) (hTl:T.length<=1600)
  (hQ:∀ac a,Ext aa ac->aa a=none->ac a=some (.list ((fen n.toNat T).map V.int))->Q (.ref a) ac):(sem zae zaj (k+9) true).run "" "fence" [.ref x] aa Q X:=by
 have hlo:=hx.lo;have hhi:=hx.hi;refine zag (F:=zhA) rfl ⟨rfl,?_⟩
 delta zhA zau ziG
 refine zaX hx ⟨by lia,?_⟩
 rw [zle];refine zbk (c:=fun J=>true) (h:=fun i:Nat=>V.bool (!bd T i)) (fun J J=>trivial) (by rw [List.length_range];unfold zao;lia) (fun i hi ac e' K hK=>?_) ?_
 ·have hi:=List.mem_range.mp hi;refine zgb (hx.ext e') hT hTl (by lia) fun au v e2 hv=>?_
  refine zaa (a := !bd T i) (by rw [←hv];rfl) ?_
  exact hK _ e2
 intro am w e1 J hw;rw [List.filter_eq_self.mpr fun J J=>rfl] at hw;have hx1:=hx.ext e1;have hw1:am w=some (.list (zcF n.toNat fun i => !bd T i)):=hw
 delta T_fence_3
 refine ⟨by simp [zao],fun f hf=>?_⟩
 delta T_fence_2
 refine zaX (hx1.upd hf) ⟨by lia,?_⟩
 refine zaF (fun t ad ac=>Ext am ac/\ac f=some (.list ((fen t T).map V.int))/\∃t3,ad=[some (.ref x),some (.ref w),some (.ref f),t3,none,none])
  ⟨Ext.rfl.upd hf,zab,_,rfl⟩ (fun J J J J=>trivial) ?_ ?_
 ·intro t v ad ac K hv zz70;refine ob61 zz70 ?_;clear zz70;intro e2 hf2 t3 ee258;subst ee258;intro hK;refine ob16 (zbl hv) ?_;intro ee259;subst ee259;intro ht;rw [Int.zero_add] at ht ⊢;have hx2:=hx1.ext e2;have hw2:=e2 _ _ hw1
  delta L_fence_1
  refine zku hw2 (by lia) (by lia) ?_
  have fs:=zme (t:=t) (T:=T);unfold fc at fs;cases c:bd T t with
  |false=>
   rw [c,Bool.false_and,if_neg qan,List.append_nil] at fs;exact go_b (b:=true) (zaq (zaq (hK _ _ ⟨e2,by rw [fs];exact hf2,_,rfl⟩)))
  |true=>
   rw [c,Bool.true_and] at fs;refine go_b (b:=false) (zaI (zah hx2.top hx2.dic ⟨⟨rfl,tb_beside⟩,zb8 hx2 ht fun b hb=>?_⟩));have e3:=(Ext.rfl (aa:=ac)).upd (o:=.list ((zaw (nb T t)).map V.int)) hb;have hb3:(ac.upd b (.list ((zaw (nb T t)).map V.int))) b=some (.list ((zaw (nb T t)).map V.int)):=zab;generalize ac.upd b (.list ((zaw (nb T t)).map V.int))=ax at *;refine zbp hb3 ?_;have hlen:=hx.rowLen t;refine zbk (c:=fun J=>true) (h:=fun j:Int=>V.bool (!bd T j)) (fun ac e=>e _ _ hb3) (by unfold zao;lia) (fun j hj ay e4 C hC=>?_) ?_
   ·have rj:=(zcG hx.ok (mem_sortI.mp hj)).2.1;exact zku (e4 _ _ (e3 _ _ hw2)) rj.1 (by lia) (hC _ .rfl)
   intro ay a4 e4 J ha4;rw [List.filter_eq_self.mpr fun J J=>rfl] at ha4;refine zpw ha4 ?_;rw [zmt];have hf4:=e4 _ _ (e3 _ _ hf2);have E4:=e2.trans (e3.trans e4);cases z:(nb T t).any fun j => !bd T j with
   |false=>
    rw [z,if_neg qan,List.append_nil] at fs;exact zaq (hK _ _ ⟨E4,by rw [fs];exact hf4,_,rfl⟩)
   |true=>
    rw [z,if_pos rfl] at fs;have:=znR (t:=t) (T:=T);refine zaI (zak hf4 (zaJ hf4 (by rw [qac];unfold zao;lia) (hK _ _ ⟨E4.upd hf,?_,_,rfl⟩)))
    rw [zab,fs,List.map_append];rfl
 ·intro ad ac zz71;refine ob61 zz71 ?_;clear zz71;intro e2 hf2 t3 ee260;subst ee260;rw [qac,za2] at hf2
  delta T_fence_1
  exact hQ _ _ (e1.trans e2) (e1.none hf) hf2
end
def Gn (n:Nat) (E:Int->Int->Prop):Prop:=∀i j,E i j->E j i/\i≠j/\(0<=i/\i<n)
def Mx (n:Nat) (E:Int->Int->Prop) (M:Int->Int):Prop:=Mg n E M/\∀N,Mg n E N->cov N n<=cov M n
def Miss (n:Nat) (E:Int->Int->Prop) (i:Int):Prop:=(0<=i/\i<n)/\∃M,Mx n E M/\M i<0
section
variable {n:Nat} {E E1:Int->Int->Prop} {M N:Int->Int} {x y a d:Int}
theorem Mx.of (h:Mx n E M) (g:Mg n E N) (le:cov M n<=cov N n):Mx n E N:=⟨g,fun K k=>qak (h.2 K k) le⟩
theorem zei (c:∀i,0<=N i↔0<=M i\/i=x\/i=y) (rx:0<=x/\x<n) (ry:0<=y/\y<n) (ne:x≠y) (fx:M x<0) (fy:M y<0):cov N n=cov M n+2:=by
 let p:Int->Bool:=fun i=>decide (0<=M i\/i=x)
 have h1:cnt p n=cov M n+1:=zdn rx.1 rx.2 (qai (by lia)) (qaf (.inr rfl)) fun i hi=>decide_eq_decide.mpr ⟨fun h=>h.elim id fun e=>absurd e hi,.inl⟩
 have h2:cov N n=cnt p n+1:=zdn ry.1 ry.2 (qai (by lia)) (qaf (by have:=c y;lia)) fun i hi=>decide_eq_decide.mpr (by have:=c i;lia)
 lia
theorem Mx.edge (g:Gn n E) (h:Mx n E M) (e:E x y) (fx:M x<0) (fy:M y<0):False:=by
 refine ob19 (g _ _ e) ?_;intro e' ne rx;have ry:=(g _ _ e').2.2;refine ob1 (h.1.add e e' ne rx ry fx fy) ?_;intro N hN c;have:=zei c rx ry ne fx fy;have:=h.2 N hN
 lia
theorem Mx.alt (g:Gn n E) (hM:Mx n E M) (hN:Mg n E N) (mx:0<=M x) (nx:N x<0) :
  (∃y M',y≠x/\M y<0/\Mx n E M'/\∀i,0<=M' i↔(0<=M i/\i≠x)\/i=y) \/
  ∃y M' N',y≠x/\0<=M y/\N y<0/\(Mg n E M'/\cov M' n+2=cov M n/\∀i,0<=M' i↔0<=M i/\i≠x/\i≠y)/\Mg n E N'/\cov N' n=cov N n+2/\∀i,0<=N' i↔0<=N i\/i=x\/i=y:=by
 have rx:=(hM.1 x mx).1;obtain ⟨y,M',N',ne,⟨hM',hN'⟩,⟨h1,h2,h3,h4⟩ |⟨h1,h2,h3,h4⟩⟩:=Mg.alt (fun i j e=>⟨(g i j e).1,(g i j e).2.1⟩) (cov N n+1) hM.1 hN (Nat.lt_succ_self _) mx nx
 ·have ry:=(hN y h2).1;refine .inl ⟨y,M',ne,h1,hM.of hM' (Nat.le_of_eq (zfp ry.1 ry.2 rx.1 rx.2 ne (qai (by lia)) (qaf (by have:=h3 y;lia)) (qaf mx) (qai (by have:=h3 x;lia)) fun i a b=>decide_eq_decide.mpr (by have:=h3 i;lia)).symm),h3⟩
 ·have ry:=(hM.1 y h1).1;refine .inr ⟨y,M',N',ne,h1,h2,⟨hM',?_,h3⟩,hN',zei h4 rx ry (Ne.symm ne) nx h2,h4⟩;have kx:∀i,i=x->0<=M i:=fun i e=>e▸mx;have ky:∀i,i=y->0<=M i:=fun i e=>e▸h1;exact (zei (fun i=>by have:=h3 i;have:=kx i;have:=ky i;lia) rx ry (Ne.symm ne) (by have:=h3 x;lia) (by have:=h3 y;lia)).symm
def Dp (D:Int->Prop) (E:Int->Int->Prop):Nat->Int->Int->Prop
 | 0,u,v=>u=v
 |k+1,u,v=>∃w,E u w/\D w/\Dp D E k w v
theorem zmQ (g:Gn n E) {D:Int->Prop} (hD:∀w,D w->Miss n E w):∀{k:Nat} {u v:Int},Dp D E k u v->u≠v->∀{M:Int->Int},Mx n E M->M u<0->M v<0->False
 | 0,_,_,p,ne,_,_,_,_=>ne p
 |k+1,u,v,⟨w,e,dw,p⟩,ne,M,h,fu,fv=>by
  by_cases wv:w=v
  ·rw [wv] at e;exact h.edge g e fu fv
  have mw:0<=M w:=Classical.byContradiction fun z=>h.edge g e fu (by lia)
  refine ob72 (hD w dw) ?_;intro J N hN nw
  rcases h.alt g hN.1 mw nw with ⟨y,M',ne',my,hM',c⟩ |⟨y,M',N',_,_,_,_,hN',lt,_⟩
  ·have m'w:M' w<0:=by have:=c w;lia
   by_cases yu:y=u
   ·exact zmQ g hD p wv hM' m'w (by have:=c v;have:v≠y:=fun e=>ne (by rw [←yu,e]);lia)
   ·exact hM'.edge g e (by have:=c u;lia) m'w
  ·have:=hN.2 N' hN'
   lia
theorem zoF (g:Gn n E) (h1:∀N,Mg n E1 N↔Mg n E N/\N a<0) (even:∀N,Mg n E N->cov N n%2=0) (ra:0<=a/\a<n) (ha:¬Miss n E a) (hM:Mx n E M):∃M1,Mx n E1 M1/\cov M1 n+2=cov M n/\∀i,0<=M1 i->0<=M i:=by
 have ma:0<=M a:=Classical.byContradiction fun z=>ha ⟨ra,M,hM,by lia⟩
 refine ob1 (hM.1.del ma) ?_;intro M1 g1 c;have gm:=hM.1 a ma;have m2:0<=M (M a):=by rw [gm.2.1];exact ra.1
 have rm:=(hM.1 _ m2).1;have ne:a≠M a:=(g _ _ gm.2.2).2.1;have k1:∀i,i=a->0<=M i:=fun i e=>e▸ma;have k2:∀i,i=M a->0<=M i:=fun i e=>e▸m2;have e2:=zei (M:=M1) (N:=M) (fun i=>by have:=c i;have:=k1 i;have:=k2 i;lia) ra rm ne (by have:=c a;lia) (by have:=c (M a);lia)
 refine ⟨M1,⟨(h1 M1).mpr ⟨g1,by have:=c a;lia⟩,fun N hN=>?_⟩,e2.symm,fun i hi=>((c i).mp hi).1⟩
 refine ob16 ((h1 N).mp hN) ?_;intro hN na;have le:=hM.2 N hN;have e3:=even N hN;have e4:=even M hM.1
 by_cases eq:cov N n=cov M n
 ·exact absurd ⟨ra,N,hM.of hN (by lia),na⟩ ha
 ·lia
theorem stab (g:Gn n E) (h1:∀N,Mg n E1 N↔Mg n E N/\N a<0) (even:∀N,Mg n E N->cov N n%2=0) (ra:0<=a/\a<n) (ha:¬Miss n E a) (e:E a d) (hd:Miss n E d) (xa:x≠a):Miss n E1 x↔Miss n E x:=by
 constructor
 ·intro zz72;refine ob72 zz72 ?_;clear zz72;intro rx N hN nx;refine Classical.byContradiction fun no=>?_;refine ob16 ((h1 N).mp hN.1) ?_;intro gN na;refine ob72 hd ?_;clear hd;intro rd M hM md;have mx:0<=M x:=Classical.byContradiction fun z=>no ⟨rx,M,hM,by lia⟩
  rcases hM.alt g gN mx nx with ⟨y,M',ne,my,hM',c⟩ |⟨y,M',N',ne,my,ny,⟨hM',lt,c⟩,hN',lt',c'⟩
  ·exact no ⟨rx,M',hM',by have:=c x;lia⟩
  ·by_cases ya:y=a
   ·subst ya;refine ob19 (g _ _ e) ?_;intro e' ne' J;have m'y:M' y<0:=by have:=c y;lia
    have m'd:M' d<0:=by have:=c d;lia
    refine ob1 (hM'.add e e' ne' ra rd m'y m'd) ?_;intro K hK ck;have:=zei ck ra rd ne' m'y m'd;have xd:x≠d:=fun z=>by rw [z] at mx;lia
    exact no ⟨rx,K,hM.of hK (by lia),by have:=ck x;have:=c x;lia⟩
   ·have:=hN.2 N' ((h1 N').mpr ⟨hN',by have:=c' a;lia⟩)
    lia
 ·intro zz73;refine ob72 zz73 ?_;clear zz73;intro rx M hM mx;refine ob6 (zoF g h1 even ra ha hM) ?_;intro M1 hM1 J c;exact ⟨rx,M1,hM1,by have:=c x;lia⟩
def ct (E:Int->Int->Prop) (L:List Int) (i j:Int):Prop:=E i j/\i∉L/\j∉L
theorem zpn {L:List Int}:Mg n (ct E (a::L)) N↔Mg n (ct E L) N/\N a<0:=by
 constructor
 ·refine fun h=>⟨fun i hi=>?_,Classical.byContradiction fun z=>(h a (by lia)).2.2.2.1 (qaj ..)⟩
  refine ob73 (h i hi) ?_;intro r m e x1 x2;exact ⟨r,m,e,fun z=>x1 (qag _ z),fun z=>x2 (qag _ z)⟩
 ·refine fun ⟨h,na⟩ i hi=>?_;refine ob73 (h i hi) ?_;intro r m e x1 x2;refine ⟨r,m,e,fun z=>(qad.mp z).elim (fun z=>?_) x1,fun z=>(qad.mp z).elim (fun z=>?_) x2⟩
  ·rw [z] at hi;lia
  ·rw [z] at m;lia
theorem zoe {L:List Int} (g:Gn n E):Gn n (ct E L):=fun i j h=>⟨⟨(g _ _ h.1).1,h.2.2,h.2.1⟩,(g _ _ h.1).2⟩
theorem zpX {L:List Int} (h:Mg n (ct E L) N):Mg n E N:=fun i hi=>⟨(h i hi).1,(h i hi).2.1,(h i hi).2.2.1⟩
theorem zmP (g:Gn n E) (even:∀N,Mg n E N->cov N n%2=0) (hM:Mx n E M):∀{L:List Int},L.Nodup->(∀a∈L,(0<=a/\a<n)/\¬Miss n E a/\∃d,E a d/\Miss n E d) ->
  (∃M1,Mx n (ct E L) M1/\cov M1 n+2*L.length=cov M n)/\∀x,x∉L->(Miss n (ct E L) x↔Miss n E x)
 | [],_,_=>by
  have e:ct E []=E:=funext fun i=>funext fun j=>propext ⟨fun h=>h.1,fun h=>⟨h,qam,qam⟩⟩;rw [e];exact ⟨⟨M,hM,rfl⟩,fun J J=>Iff.rfl⟩
 |a::L,hn,hL=>by
  refine lift fun g9 k9=>?_;refine ob16 (qar.mp hn) ?_;intro aL hn;refine ob74 (zmP g even hM hn fun b hb=>hL b (qag _ hb)) ?_;intro M1 hM1 c1 ms;refine ob75 (hL a (qaj ..)) ?_;intro ra na d ed hd
  apply k9
  clear k9 g9;have even':∀N,Mg n (ct E L) N->cov N n%2=0:=fun N hN=>even N (zpX hN);have na':¬Miss n (ct E L) a:=fun z=>na ((ms a aL).mp z);have dL:d∉L:=fun z=>(hL d (qag _ z)).2.1 hd;refine ob6 (zoF (zoe g) (fun N=>zpn) even' ra na' hM1) ?_;intro M2 hM2 c2 J;refine ⟨⟨M2,hM2,by rw [List.length_cons];lia⟩,fun x hx=>?_⟩
  have hx:=(not_or.mp fun z=>hx (qad.mpr z));rw [stab (zoe g) (fun N=>zpn) even' ra na' ⟨ed,aL,dL⟩ ((ms d dL).mpr hd) hx.1];exact ms x hx.2
structure Pts (n:Nat) (E:Int->Int->Prop) (L:List Int) (Ps:List (List Int)):Prop where
 all:∀i:Int,(0<=i/\i<n)/\i∉L↔i∈Ps.flatten
 nod:Ps.flatten.Nodup
 cl:∀K∈Ps,∀i∈K,∀j,ct E L i j->j∈K
 con:∀K∈Ps,∀i∈K,∀j∈K,∃k,Dp (fun J=>True) (ct E L) k i j
end
section
variable {n:Nat} {E:Int->Int->Prop} {M:Int->Int} {L:List Int} {Ps:List (List Int)}
theorem zfq {p:Int->Bool} {l:List Int} (nd:l.Nodup) (h:∀i:Int,i∈l↔(0<=i/\i<n)/\p i=true):cnt p n=l.length:=by
 unfold cnt;rw [List.countP_eq_length_filter,←qac (f:=fun i:Nat=>(i:Int))]
 apply Nat.le_antisymm
 ·refine zbU (List.pairwise_map.mpr ((List.nodup_range.filter _).imp fun h e=>h (by lia))) fun x hx=>?_
  refine ob1 (List.mem_map.mp hx) ?_;intro i hi ee261;subst ee261;refine ob16 (List.mem_filter.mp hi) ?_;intro h1 h2;have:=List.mem_range.mp h1;exact (h _).mpr ⟨by lia,h2⟩
 ·refine zbU nd fun x hx=>?_;refine ob16 ((h x).mp hx) ?_;intro r hx;have e:=Int.toNat_of_nonneg r.1;exact List.mem_map.mpr ⟨x.toNat,List.mem_filter.mpr ⟨List.mem_range.mpr (by lia),by rw [e];exact hx⟩,e⟩
theorem Dp.mono {D D':Int->Prop} (h:∀i j,D' i->E i j->D' j):∀{k:Nat} {u v:Int},D' u->Dp D E k u v->Dp D' E k u v
 | 0,_,_,_,p=>p
 |k+1,u,v,hu,⟨w,e,_,p⟩=>⟨w,e,h u w hu e,Dp.mono h (h u w hu e) p⟩
theorem zke {p:Int->Bool}:∀{l:List Int},l.Nodup->(∀u∈l,∀v∈l,u≠v->p u=true->p v=true->False)->l.countP p<=1
 | [],_,_=>Nat.zero_le _
 |x::l,hn,h=>by
  refine ob16 (qar.mp hn) ?_;intro xl hn;rw [List.countP_cons]
  by_cases px:p x=true
  ·have:l.countP p=0:=List.countP_eq_zero.mpr fun v hv pv=>h x (qaj ..) v (qag _ hv) (fun e=>xl (e▸hv)) px pv;rw [if_pos px,this];exact qal _
  ·rw [if_neg px];exact zke hn fun u hu v hv=>h u (qag _ hu) v (qag _ hv)
theorem zga {l:List Int}:l.length=l.countP (fun i=>decide (M i<0))+(l.filter fun i=>decide (0<=M i)).length:=by
 rw [List.length_eq_countP_add_countP (p:=fun i=>decide (M i<0)),←List.countP_eq_length_filter]
 congr 1
 refine List.countP_congr fun i J=>?_;rw [qaq,qaq,qaq];lia
theorem zlJ (g:Gn n E) (h:Mx n E M) {K:List Int} (hn:K.Nodup) (cl:∀i∈K,∀j,E i j->j∈K) (con:∀i∈K,∀j∈K,Miss n E i->∃k,Dp (Miss n E) E k i j) (rg:∀i∈K,0<=i/\i<n):K.countP (fun i=>decide (M i<0))=K.length%2:=by
 have l1:K.countP (fun i=>decide (M i<0))<=1:=zke hn fun u hu v hv ne fu fv=>by
  have mu:Miss n E u:=⟨rg u hu,M,h,of_decide_eq_true fu⟩;refine ob14 (con u hu v hv mu) ?_;intro k p;exact zmQ g (fun J h=>h) p ne h (of_decide_eq_true fu) (of_decide_eq_true fv)
 have l2:(K.filter fun i=>decide (0<=M i)).length%2=0:=zdL (f:=M) _ (qal _) (hn.filter _) fun i hi=>by
  refine ob16 (List.mem_filter.mp hi) ?_;intro iK hi;refine ob19 (h.1 i (of_decide_eq_true hi)) ?_;intro r m e;refine ⟨List.mem_filter.mpr ⟨cl i iK _ e,qaf (by rw [m];exact r.1)⟩,m,Ne.symm (g _ _ e).2.1⟩
 have l3:=zga (M:=M) (l:=K)
 lia
theorem zjI {p:Int->Bool}:∀{Ps:List (List Int)},(∀K∈Ps,K.countP p=K.length%2)->Ps.flatten.countP p=(Ps.filter fun K=>decide (K.length%2=1)).length
 | [],_=>rfl
 |K::Ps,h=>by
  rw [List.flatten_cons,List.countP_append,h K (qaj ..),zjI fun K hK=>h K (qag _ hK),List.filter_cons]
  by_cases z:K.length%2=1
  ·rw [qaf z,if_pos rfl,List.length_cons];lia
  ·rw [qai z,if_neg qan];lia
theorem zmd (g:Gn n E) (even:∀N,Mg n E N->cov N n%2=0) (hM:Mx n E M) (hL:L.Nodup) (fe:∀a,a∈L↔(0<=a/\a<n)/\¬Miss n E a/\∃d,E a d/\Miss n E d) (P:Pts n E L Ps) :
  n+L.length=cov M n+(Ps.filter fun K=>decide (K.length%2=1)).length:=by
 refine ob74 (zmP g even hM hL fun a ha=>(fe a).mp ha) ?_;intro M1 hM1 c1 ms;have g1:=zoe (L:=L) g;have step:∀i j,Miss n (ct E L) i->ct E L i j->Miss n (ct E L) j:=fun i j hi e=>by
  refine (ms j e.2.2).mpr (Classical.byContradiction fun no=>e.2.2 ((fe j).mpr ?_));refine ob19 (g _ _ e.1) ?_;intro e' J J;exact ⟨(g _ _ e').2.2,no,i,e',(ms i e.2.1).mp hi⟩
 have rg:∀K∈Ps,∀i∈K,(0<=i/\i<n)/\i∉L:=fun K hK i hi=>(P.all i).mpr (List.mem_flatten.mpr ⟨K,hK,hi⟩);have odd:=zjI (p:=fun i=>decide (M1 i<0)) fun K hK=>zlJ g1 hM1 (P.nod.sublist (List.sublist_flatten_of_mem hK)) (P.cl K hK) (fun i hi j hj mi=>(P.con K hK i hi j hj).imp fun k p=>p.mono step mi) fun i hi=>(rg K hK i hi).1;have cv:cov M1 n=(Ps.flatten.filter fun i=>decide (0<=M1 i)).length:=zfq (P.nod.filter _) fun i=>by
  rw [List.mem_filter,←P.all i];refine ⟨fun h=>⟨h.1.1,h.2⟩,fun h=>⟨⟨h.1,?_⟩,h.2⟩⟩;exact (hM1.1 i (of_decide_eq_true h.2)).2.2.2.1
 have tot:n=(L++Ps.flatten).length:=by
  have:=zfq (n:=n) (p:=fun J=>true) (l:=L++Ps.flatten) (List.nodup_append.mpr ⟨hL,P.nod,fun a ha b hb e=>((P.all b).mpr hb).2 (e▸ha)⟩) fun i=>by
   rw [qao,←P.all i];exact ⟨fun h=>⟨h.elim (fun h=>((fe i).mp h).1) fun h=>h.1,rfl⟩,fun h=>(Classical.em (i∈L)).imp id fun no=>⟨h.1,no⟩⟩
  rw [←this];unfold cnt;rw [List.countP_true,List.length_range]
 have l3:=zga (M:=M1) (l:=Ps.flatten);rw [qat] at tot
 lia
end
section
variable {n m:Int} {T:List (Int×Int)} {L M P W K:List Int} {C C':Int->Prop} {aa aj:Store} {mt w:Addr}
def Rc (T:List (Int×Int)) (L:List Int) (i j:Int):Prop:=∃k,Dp (fun J=>True) (ct (Nb T) L) k i j
theorem Dp.snoc {D:Int->Prop} {E:Int->Int->Prop}:∀{k:Nat} {u v w:Int},Dp D E k u v->E v w->D w->Dp D E (k+1) u w
 | 0,u,v,w,p,e,d=>⟨w,(show u=v from p)▸e,d,rfl⟩
 |k+1,_,_,_,⟨x,e',d',p⟩,e,d=>⟨x,e',d',Dp.snoc p e d⟩
theorem Rc.rfl {i:Int}:Rc T L i i:=⟨0,Eq.refl i⟩
variable {i j:Int}
theorem Rc.snoc {k:Int} (h:Rc T L i j) (e:ct (Nb T) L j k):Rc T L i k:=h.elim fun J p=>⟨_,p.snoc e trivial⟩
theorem Rc.go {k:Int} (h:Rc T L i j) (g:Rc T L j k):Rc T L i k:=by
 refine ob14 h ?_;clear h;intro a p
 induction a generalizing i with
 |zero=>exact (show i=j from p)▸g
 |succ a ih=>
  refine ob6 p ?_;clear p;intro x e J p;refine ob14 (ih p) ?_;intro b q;exact ⟨b+1,x,e,trivial,q⟩
theorem Rc.back (h:Rc T L i j):Rc T L j i:=by
 refine ob14 h ?_;clear h;intro a p
 induction a generalizing i with
 |zero=>exact (show i=j from p)▸Rc.rfl
 |succ a ih=>
  refine ob6 p ?_;clear p;intro x e J p;exact (ih p).snoc ⟨zcN e.1,e.2.2,e.2.1⟩
theorem Rc.keep (h:Rc T L i j) (hi:i∈K) (cl:∀z∈K,∀y,ct (Nb T) L z y->y∈K):j∈K:=by
 refine ob14 h ?_;clear h;intro a p
 induction a generalizing i with
 |zero=>exact (show i=j from p)▸hi
 |succ a ih=>
  refine ob6 p ?_;clear p;intro x e J p;exact ih (cl i hi x e) p
structure Prt (n:Int) (T:List (Int×Int)) (L:List Int) (m:Int) (K:List Int):Prop where
 nod:K.Nodup
 top:m∈K
 inn:∀z∈K,((0<=z/\z<n)/\z∉L)/\Rc T L m z
 cl:∀z∈K,∀y,ct (Nb T) L z y->y∈K
structure Gt (n:Int) (T:List (Int×Int)) (L:List Int) (t:Nat) (Ps:List (List Int)):Prop where
 nod:Ps.flatten.Nodup
 inn:∀i∈Ps.flatten,(0<=i/\i<n)/\i∉L
 all:∀i:Nat,i<t->(i:Int)∉L->(i:Int)∈Ps.flatten
 cl:∀K∈Ps,∀i∈K,∀j,ct (Nb T) L i j->j∈K
 con:∀K∈Ps,∀i∈K,∀j∈K,Rc T L i j
theorem Gt.zero:Gt n T L 0 []:=⟨.nil,fun J h=>absurd h qam,fun J h=>absurd h (Nat.not_lt_zero _),fun J h=>absurd h qam,fun J h=>absurd h qam⟩
variable {Ps:List (List Int)}
theorem Gt.skip {t:Nat} (h:Gt n T L t Ps) (g:(t:Int)∉L->(t:Int)∈Ps.flatten):Gt n T L (t+1) Ps:=
 ⟨h.nod,h.inn,fun i hi hL=>(Nat.lt_succ_iff_lt_or_eq.mp hi).elim (fun hi=>h.all i hi hL) fun e=>by subst e;exact g hL,h.cl,h.con⟩
theorem Gt.put {t:Nat} (h:Gt n T L t Ps) (p:Prt n T L t K) (no:(t:Int)∉Ps.flatten):Gt n T L (t+1) (Ps++[K]):=by
 have fl:(Ps++[K]).flatten=Ps.flatten++K:=by rw [List.flatten_append,List.flatten_singleton]
 refine ⟨?_,fun i hi=>?_,fun i hi hL=>?_,fun K' hK=>?_,fun K' hK=>?_⟩
 ·rw [fl];refine List.nodup_append.mpr ⟨h.nod,p.nod,fun a ha b hb e=>no ?_⟩;subst e;refine ob1 (List.mem_flatten.mp ha) ?_;intro K' hK ha;exact List.mem_flatten.mpr ⟨K',hK,(p.inn a hb).2.back.keep ha (h.cl K' hK)⟩
 ·rw [fl] at hi;exact (qao.mp hi).elim (h.inn i) fun hi=>(p.inn i hi).1
 ·rw [fl];exact qao.mpr ((Nat.lt_succ_iff_lt_or_eq.mp hi).imp (fun hi=>h.all i hi hL) fun e=>by subst e;exact p.top)
 ·exact (qao.mp hK).elim (h.cl K') fun hK=>qah.mp hK▸p.cl
 ·exact (qao.mp hK).elim (h.con K') fun hK=>qah.mp hK▸fun i hi j hj=>(p.inn i hi).2.back.go (p.inn j hj).2
theorem Gt.pts (h:Gt n T L n.toNat Ps):Pts n.toNat (Nb T) L Ps:=
 ⟨fun i=>⟨fun g=>by have e:=Int.toNat_of_nonneg g.1.1;have:=h.all i.toNat (by lia) (by rw [e];exact g.2);rwa [e] at this,fun g=>by have:=h.inn i g;exact ⟨⟨this.1.1,by lia⟩,this.2⟩⟩,h.nod,h.cl,h.con⟩
structure Pw (aj aa:Store) (mt w:Addr) (n:Int) (T:List (Int×Int)) (L:List Int) (m:Int) (M P W:List Int) (C:Int->Prop):Prop where
 ext:Ext aj aa
 met:aa mt=some (.dict (M.map V.int))
 wai:aa w=some (.list (W.map V.int))
 m0:aj mt=none
 w0:aj w=none
 nod:M.Nodup
 inn:∀z∈M,((0<=z/\z<n)/\z∉L)/\Rc T L m z
 top:m∈M
 sp:M.Perm (P++W)
 cl:∀y,C y->y∈M
theorem Pw.len (h:Pw aj aa mt w n T L m M P W C) (hn:n<=40):M.length<=40/\P.length+W.length<=40:=by
 have:=za5 (m:=40) h.nod fun z hz=>by have:=(h.inn z hz).1.1;lia
 have e:=h.sp.length_eq;rw [qat] at e
 lia
theorem Pw.stay (h:Pw aj aa mt w n T L m M P W C) (hC:∀y,C' y->C y\/y∈M):Pw aj aa mt w n T L m M P W C':={ h with cl:=fun y hy=>(hC y hy).elim (h.cl y) id }
theorem Pw.ext' {ac:Store} (h:Pw aj aa mt w n T L m M P W C) (e:Ext aa ac):Pw aj ac mt w n T L m M P W C:={ h with ext:=h.ext.trans e,met:=e _ _ h.met,wai:=e _ _ h.wai }
theorem Pw.pop {q:Int} (h:Pw aj aa mt w n T L m M P (W++[q]) C):Pw aj (aa.upd w (.list (W.map V.int))) mt w n T L m M (P++[q]) W C:=
 { h with
  ext:=h.ext.upd h.w0
  met:=(zaf (za7 h.met h.wai fun e=>by cases e)).trans h.met
  wai:=zab
  sp:=h.sp.trans (by rw [List.append_assoc];exact List.Perm.append_left _ List.perm_append_comm) }
theorem Pw.put {o:Int} (h:Pw aj aa mt w n T L m M P W C) (hi:(0<=o/\o<n)/\o∉L) (hr:Rc T L m o) (no:o∉M) (hC:∀y,C' y->C y\/y=o) :
  Pw aj ((aa.upd mt (.dict ((M++[o]).map V.int))).upd w (.list (W.map V.int++[.int o]))) mt w n T L m (M++[o]) P (W++[o]) C':=
 have ne:mt≠w:=za7 h.met h.wai fun e=>by cases e
 { h with
  ext:=(h.ext.upd h.m0).upd h.w0
  met:=(zaf ne).trans zab
  wai:=by rw [zab,List.map_append];rfl
  nod:=List.nodup_append.mpr ⟨h.nod,List.pairwise_singleton _ _,fun a ha b hb e=>no (by rw [←qah.mp hb,←e];exact ha)⟩
  inn:=fun z hz=>(qao.mp hz).elim (h.inn z) fun e=>by rw [qah.mp e];exact ⟨hi,hr⟩
  top:=qaw _ h.top
  sp:=by rw [←List.append_assoc];exact List.Perm.append_right _ h.sp
  cl:=fun y hy=>qao.mpr ((hC y hy).imp (h.cl y) qah.mpr) }
end
section
variable {k:Nat} {aa aj:Store} {Q:V->Store->Prop} {X:XP} {nr tr mt w:Addr} {rs:List Addr} {n m q:Int} {T:List (Int×Int)} {L D M P W:List Int}
theorem zi3 {t5 t6:Option V} {N:Loc->Store->Prop} {Y:XL} {vm:V} (hn:n<=40) (hok:∀p∈T,zap n p) (hR:Rows aj nr rs n.toNat fun i=>zaw (nb T i)) (hD:aj tr=some (.dict (D.map V.int))) (hDA:∀y,y∈D↔(0<=y/\y<n)/\y∉L)
  (h:Pw aj aa mt w n T L m M P (W++[q]) fun y=>∃z∈P,ct (Nb T) L z y)
  (hN:∀ac M' W' t6,Pw aj ac mt w n T L m M' (P++[q]) W' (fun y=>∃z∈P++[q],ct (Nb T) L z y)->N [some (.ref nr),some vm,some (.ref tr),some (.ref mt),some (.ref w),some (.int q),t6] ac) :
  wpSs (sem zae zaj k) true L_law_part_2 [some (.ref nr),some vm,some (.ref tr),some (.ref mt),some (.ref w),t5,t6] aa N Q Y:=by
 have hq:=h.inn q (h.sp.mem_iff.mpr (qap _ (qap _ (qah.mpr rfl))))
 delta L_law_part_2
 refine zoQ (by rw [←List.map_singleton,←List.map_append];exact h.wai) ?_
 have h1:=h.pop;generalize aa.upd w (.list (W.map V.int))=am at *
 delta T_law_part_2 zmz
 have hqr:q.toNat<rs.length:=by rw [hR.len];have:=hq.1.1;lia
 have hra:=qas hqr;have hra':=hR.row _ _ hra;rw [Int.toNat_of_nonneg hq.1.1.1] at hra';refine zaG (h1.ext _ _ hR.top) hq.1.1.1 (by rw [qau,hra];rfl) (zbp (h1.ext _ _ hra') ?_)
 refine zaF (fun j ad ac=>∃M' W' t6,Pw aj ac mt w n T L m M' (P++[q]) W' (fun y=>(∃z∈P,ct (Nb T) L z y)\/(y∈(zaw (nb T q)).take j/\y∉L))/\ad=[some (.ref nr),some vm,some (.ref tr),some (.ref mt),some (.ref w),some (.int q),t6])
  ⟨M,W,t6,h1.stay fun y hy=>hy.elim .inl fun z=>absurd z.1 (by rw [List.take_zero];exact qam),rfl⟩ ?_ ?_ ?_
 ·intro j ad ac zz74;refine ob27 zz74 ?_;clear zz74;intro M' W' t6 h2 J;exact h2.ext _ _ hra'
 ·intro j v ad ac K hv zz75;refine ob27 zz75 ?_;clear zz75;intro M' W' t6 h2 ee262;subst ee262;intro hK;refine ob1 (zhn hv) ?_;intro o ee263;subst ee263;intro ho;have hom:=mem_sortI.mp (qav ho);have hoi:=zcG hok hom;have htake:∀y,y∈(zaw (nb T q)).take (j+1)->y∈(zaw (nb T q)).take j\/y=o:=fun y hy=>by
   rw [List.take_add_one,ho] at hy;exact (qao.mp hy).imp id qah.mp
  have hl:=h2.len hn
  delta L_law_part_1
  refine zaa (a:=decide (o∈D)) (by rw [zcV];exact zbN (h2.ext _ _ hD)) ?_
  by_cases hoD:o∈D
  ·rw [qaf hoD];have hoL:=((hDA o).mp hoD).2;refine zaI (zaa (a := !decide (o∈M')) (by rw [zaN,zbN h2.met];rfl) ?_)
   by_cases hoM:o∈M'
   ·rw [qaf hoM];exact zaq (hK _ _ ⟨M',W',_,h2.stay fun y hy=>hy.elim (fun z=>.inl (.inl z)) fun z=>(htake y z.1).elim (fun e=>.inl (.inr ⟨e,z.2⟩)) fun e=>.inr (e▸hoM),rfl⟩)
   ·rw [qai hoM];refine zaI (za3 h2.met (by unfold zao;lia) ?_)
    rw [if_neg hoM];have hw:(ac.upd mt (.dict ((M'++[o]).map V.int))) w=some (.list (W'.map V.int)):=(zaf (za7 h2.wai h2.met fun e=>by cases e)).trans h2.wai
    delta T_law_part_1
    refine zak hw (zaJ hw (by rw [qac];unfold zao;lia) ?_)
    exact hK _ _ ⟨M'++[o],W'++[o],_,h2.put ⟨hoi.2.1,hoL⟩ (hq.2.snoc ⟨hom,hq.1.2,hoL⟩) hoM fun y hy=>hy.elim (fun z=>.inl (.inl z)) fun z=>(htake y z.1).imp (fun e=>.inr ⟨e,z.2⟩) id,rfl⟩
  ·rw [qai hoD];have hoL:¬o∉L:=fun z=>hoD ((hDA o).mpr ⟨hoi.2.1,z⟩);exact zaq (zaq (hK _ _ ⟨M',W',_,h2.stay fun y hy=>hy.elim (fun z=>.inl (.inl z)) fun z=>(htake y z.1).elim (fun e=>.inl (.inr ⟨e,z.2⟩)) fun e=>absurd (e▸z.2) hoL,rfl⟩))
 ·intro ad ac zz76;refine ob27 zz76 ?_;clear zz76;intro M' W' t6 h2 ee264;subst ee264;rw [qac,List.take_length] at h2;refine hN ac M' W' _ (h2.stay fun y hy=>?_);refine ob1 hy ?_;clear hy;intro z hz e;exact .inl ((qao.mp hz).imp (fun hz=>⟨z,hz,e⟩) fun hz=>by rw [qah.mp hz] at e;exact ⟨mem_sortI.mpr e.1,e.2.2⟩)
theorem ziM {a:Addr} {l:List Int} (ha:aa a=some (.dict (l.map V.int))) (hl:l.length<64) (h:∀b,aa b=none->Q (.ref b) (aa.upd b (.list ((zaw l).map V.int)))):b1V true .sorted (.ref a) aa Q:=
 .inl (ziY ha (by rw [zdw hl];exact h))
theorem zi4 {m:Nat} (hn:n<=40) (hok:∀p∈T,zap n p) (hR:Rows aa nr rs n.toNat fun i=>zaw (nb T i)) (hD:aa tr=some (.dict (D.map V.int))) (hDA:∀y,y∈D↔(0<=y/\y<n)/\y∉L) (hm:(m:Int)∈D)
  (hQ:∀ac b K,Ext aa ac->aa b=none->ac b=some (.list (K.map V.int))->Prt n T L m K->Q (.ref b) ac):(sem zae zaj (k+1) true).run "" "_law_part" [.ref nr,.int m,.ref tr] aa Q X:=by
 refine zag (F:=zdp) rfl ⟨rfl,?_⟩
 delta zdp
 refine ⟨rfl,fun mt hmt=>?_⟩
 delta T_law_part_5
 refine ⟨by decide,fun w hw=>?_⟩
 delta T_law_part_4
 have hmw:mt≠w:=zaH zab hw;have hw0:aa w=none:=(Ext.rfl.upd hmt).none hw;have h0:Pw aa ((aa.upd mt (.dict [.int m])).upd w (.list [.int m])) mt w n T L m [(m:Int)] [] [(m:Int)] fun y=>∃z∈([]:List Int),ct (Nb T) L z y:=
  ⟨(Ext.rfl.upd hmt).upd hw0,(zaf hmw).trans zab,zab,hmt,hw0,List.pairwise_singleton _ _,fun z hz=>by rw [qah.mp hz];exact ⟨(hDA m).mp hm,.rfl⟩,qah.mpr rfl,.refl _,fun y hy=>by obtain ⟨z,hz,_⟩:=hy;exact absurd hz qam⟩
 refine zbc (fun c ad ac=>∃M P W t5 t6,P.length=c/\Pw aa ac mt w n T L m M P W (fun y=>∃z∈P,ct (Nb T) L z y)/\ad=[some (.ref nr),some (.int m),some (.ref tr),some (.ref mt),some (.ref w),t5,t6]) 40
  ⟨_,_,_,none,none,rfl,h0,rfl⟩ ?_ ?_
 ·intro c ad ac zz77;refine ob52 zz77 ?_;clear zz77;intro M P W t5 t6 ee265;subst ee265;intro h J;have:=h.len hn;lia
 ·intro c ad ac K zz78;refine ob52 zz78 ?_;clear zz78;intro M P W t5 t6 ee266;subst ee266;intro h ee267;subst ee267;intro hK
  delta onT
  refine ⟨by decide,fun e he=>?_⟩
  have hE:=(Ext.rfl (aa:=ac)).upd (o:=.list []) he;have he':(ac.upd e (.list [])) e=some (.list []):=zab;generalize ac.upd e (.list [])=am at *;have h1:=h.ext' hE;refine zaa (a := !(W.map V.int).isEmpty) (by rw [zcU,zkB h1.wai he'];rfl) ?_
  rcases List.eq_nil_or_concat W with rfl |⟨W0,q,rfl⟩
  ·refine zaq (aa:=am) ?_
   delta T_law_part_3
   have hl:=h1.len hn;refine ziM h1.met (by lia) fun b hb=>?_
   have hs:=h1.sp;rw [List.append_nil] at hs;exact hQ _ b _ (h1.ext.upd (h1.ext.none hb)) (h1.ext.none hb) zab ⟨(zaT M).nodup_iff.mpr h1.nod,mem_sortI.mpr h1.top,fun z hz=>h1.inn z (mem_sortI.mp hz),fun z hz y hy=>mem_sortI.mpr (h1.cl y ⟨z,hs.mem_iff.mp (mem_sortI.mp hz),hy⟩)⟩
  ·rw [List.concat_eq_append] at *;have:((W0++[q]).map V.int).isEmpty=false:=by rw [List.map_append];exact List.isEmpty_eq_false_iff.mpr (List.append_ne_nil_of_right_ne_nil _ (List.cons_ne_nil _ _))
   rw [this];refine zaI (aa:=am) (zi3 hn hok hR hD hDA h1 fun au M' W' t6 h2=>?_);exact hK _ _ ⟨M',_,W',_,t6,by rw [qat,List.length_singleton],h2,rfl⟩
end
section
variable {k:Nat} {aa aj:Store} {Q:V->Store->Prop} {X:XP}
theorem zlM {t r:Addr} {rs:List Addr} {n:Int} {D:List (Int×Int)} {p:Int×Int} {t5 t6:Option V} {N R Y} (hR:Rows aa r rs n.toNat fun i=>nb D i) (hr:r∉rs) (hl:∀i,(nb D i).length<=40) (hp:zap n p)
  (hN:∀ac,(∀a,a∉rs->ac a=aa a)->Rows ac r rs n.toNat (fun i=>nb (D++[p]) i)->N [some (.int n),some (.ref t),some (.ref r),some (.int p.1),some (.int p.2),t5,t6] ac) :
  wpSs (sem zae zaj k) true L_law_near_1 [some (.int n),some (.ref t),some (.ref r),some (.int p.1),some (.int p.2),t5,t6] aa N R Y:=by
 refine ob19 hp ?_;clear hp;intro h0 h1 h2;have ha:p.1.toNat<rs.length:=by rw [hR.len];lia
 have hb:p.2.toNat<rs.length:=by rw [hR.len];lia
 obtain ⟨a,ha⟩:∃a,rs[p.1.toNat]?=some a:=⟨_,qas ha⟩;obtain ⟨b,hb⟩:∃a,rs[p.2.toNat]?=some a:=⟨_,qas hb⟩;have hma:=qav ha;have hmb:=qav hb;have n1:=Int.toNat_of_nonneg h0;have ha1:=hR.row _ _ ha;rw [n1] at ha1;have T:=hR.two hr ⟨h0,h1,h2⟩ ha hb
 delta L_law_near_1
 refine zaG hR.top h0 (by rw [qau,ha];rfl) ?_
 refine zak ha1 (zaJ ha1 (by have:=hl p.1;rw [qac];unfold zao;lia) ?_)
 delta T_law_near_1
 refine zaG ((zaf (zeL hma hr).symm).trans hR.top) (Int.le_trans h0 (Int.le_of_lt h1)) (by rw [qau,hb];rfl) ?_
 refine zak T.1 (zaJ T.1 (by have:=hl p.2;rw [qac];unfold zao;lia) ?_)
 exact hN _ (fun z hz=>by rw [zaf (zeL hmb hz).symm,zaf (zeL hma hz).symm]) T.2
theorem zj3 {t:Addr} {n:Int} {T:List (Int×Int)} (ht:aa t=some (.list (T.map pr))) (h1:1<=n) (h2:n<=40) (hT:T.Nodup/\∀p∈T,zap n p)
  (hQ:∀r rs ac,Ext aa ac->Rows ac r rs n.toNat (fun i=>zaw (nb T i))->Q (.ref r) ac):(sem zae zaj (k+1) true).run "" "_law_near" [.int n,.ref t] aa Q X:=by
 have hTn:=hT.1;refine zag (F:=zdq) rfl ⟨rfl,?_⟩
 delta zdq
 refine ⟨by lia,?_⟩
 refine zhT (n:=n.toNat) (by lia) (by rw [qac,za2]) (fun v ac K h=>zfc rfl ⟨by decide,h⟩) fun r rs am hE hr hrs hrr hR=>?_
 delta T_law_near_3
 have htrs:t∉rs:=fun h=>zbB ht (hrs t h);refine zbp (hE _ _ ht) ?_;refine zaF (fun j ad ac=>Ext aa ac/\Rows ac r rs n.toNat (fun i=>nb (T.take j) i)/\∃t3 t4 t5 t6,ad=[some (.int n),some (.ref t),some (.ref r),t3,t4,t5,t6])
  ⟨hE,hR.congr fun i J=>by rw [List.take_zero];rfl,_,_,_,_,rfl⟩ ?_ ?_ ?_
 ·intro j ad ac zz79;refine ob16 zz79 ?_;clear zz79;intro h J;exact h _ _ ht
 ·intro j v ad ac K hv zz80;refine ob76 zz80 ?_;clear zz80;intro hE' hR' t3 t4 t5 t6 ee268;subst ee268;intro hK;refine ob14 (zh8 hv) ?_;intro hj ee269;subst ee269;have htake:=List.take_succ_eq_append_getElem hj;refine zaa (a:=[some (.int n),some (.ref t),some (.ref r),some (.int T[j].1),some (.int T[j].2),t5,t6]) rfl ?_;refine zlM (D:=T.take j) hR' hrr (fun i=>zeJ (n:=n) (hTn.sublist (List.take_sublist ..)) (fun q hq=>hT.2 q (List.mem_of_mem_take hq)) (by lia) h2) (hT.2 _ (List.getElem_mem hj)) fun au same hR2=>?_
  exact hK _ _ ⟨fun a o e=>by rw [same a fun m=>zbB e (hrs a m)];exact hE' a o e,by rw [htake];exact hR2,_,_,_,_,rfl⟩
 ·intro ad ac zz81;refine ob76 zz81 ?_;clear zz81;intro hE' hR' t3 t4 t5 t6 ee270;subst ee270;rw [qac,List.take_length] at hR'
  delta T_law_near_2
  refine zbp hR'.top (zfW (n:=n.toNat) (by lia) hR' (fun i=>by have:=zeJ (i:=i) hTn hT.2 (by lia) h2;lia) (fun a l aD K ha hl h=>zfc rfl (zdZ ha hl h)) fun r' rs' aD g1 J J J g2=>?_)
  exact hQ r' rs' aD (hE'.trans g1) g2
end
theorem zgl:∀{l acc:List Int},(acc++l).Nodup->(l.map V.int).foldl (fun d k=>zaY k d) (acc.map V.int)=(acc++l).map V.int
 | [],acc,_=>by rw [List.append_nil];rfl
 |a::l,acc,h=>by
  have ha:a∉acc:=fun m=>(List.nodup_append.mp h).2.2 a m a (qaj ..) rfl;have e:acc++a::l=(acc++[a])++l:=by rw [List.append_assoc];rfl
  rw [List.map_cons,List.foldl_cons,zeE,if_neg ha,e];exact zgl (e▸h)
theorem zh2 {n i:Int}:i∈upto 0 n 1↔0<=i/\i<n:=by
 rw [List.mem_iff_getElem?];refine ⟨fun ⟨j,hj⟩=>by have:=upto_get' hj;lia,fun h=>⟨i.toNat,by rw [zgO (by lia),Int.zero_add,Int.toNat_of_nonneg h.1]⟩⟩
theorem upto_nodup {n:Int}:(upto 0 n 1).Nodup:=by
 unfold upto;rw [if_pos (by decide)]
 exact List.Pairwise.map _ (fun a b h e=>h (by lia)) List.nodup_range
section
variable {k:Nat} {aa aj:Store} {Q:V->Store->Prop} {X:XP} {nr tr mt f:Addr} {rs:List Addr} {n:Int} {T:List (Int×Int)} {L D M:List Int} {G:List (Addr×List Int)} {t:Nat}
theorem znb:(zae "" "_law_near").isSome=true:=rfl
theorem zna:(zae "" "_law_part").isSome=true:=rfl
structure Gs (aj aa:Store) (f mt:Addr) (n:Int) (T:List (Int×Int)) (L:List Int) (t:Nat) (G:List (Addr×List Int)) (M:List Int):Prop where
 ext:Ext aj aa
 f0:aj f=none
 m0:aj mt=none
 top:aa f=some (.list (G.map fun p=>V.ref p.1))
 met:aa mt=some (.dict (M.map V.int))
 row:∀p∈G,p.1≠f/\aa p.1=some (.list (p.2.map V.int))
 nod:M.Nodup
 mem:∀y,y∈M↔y∈(G.map Prod.snd).flatten
 gt:Gt n T L t (G.map Prod.snd)
 few:G.length<=t
theorem Gs.len (h:Gs aj aa f mt n T L t G M) (hn:n<=40):M.length<=40:=za5 (m:=40) h.nod fun z hz=>by have:=h.gt.inn z ((h.mem z).mp hz);lia
theorem zlR {f8:Option V} {t9 a0 a1 a2 a3 a4 a5 a7:Option V} {K:List Int} {c:Addr} {N:Loc->Store->Prop} {Y:XL} (hc:aa c=some (.list (K.map V.int))) (hm:aa mt=some (.dict (M.map V.int))) (hM:M.length<=40) (hK:K.length<=40) (hn:M.Nodup) (hd:∀y∈K,y∉M) (hk:K.Nodup)
  (hN:∀t8,N [a0,a1,a2,a3,a4,a5,some (.ref mt),a7,t8,t9] (aa.upd mt (.dict ((M++K).map V.int)))) :
  forV (fun ac=>ac c=some (.list (K.map V.int))) (fun v ad aa K=>zam (zay (.one 8) v ad) fun ak=>wpSs (sem zae zaj k) true L_law_parts_1 ak aa K Q Y) N (K.map V.int) [a0,a1,a2,a3,a4,a5,some (.ref mt),a7,f8,t9] aa:=by
 have hcm:c≠mt:=za7 hc hm fun e=>by cases e
 refine zaF (fun j ad ac=>ac=aa.upd mt (.dict ((M++K.take j).map V.int))/\∃t8,ad=[a0,a1,a2,a3,a4,a5,some (.ref mt),a7,t8,t9]) ⟨?_,f8,rfl⟩ ?_ ?_ ?_
 ·rw [List.take_zero,List.append_nil]
  funext a
  by_cases e:a=mt
  ·rw [e,zab,hm]
  ·rw [zaf e]
 ·intro j ad ac zz82;refine ob16 zz82 ?_;clear zz82;intro ee271;subst ee271;intro J;exact (zaf hcm).trans hc
 ·intro j v ad ac C hv zz83;refine ob60 zz83 ?_;clear zz83;intro ee272;subst ee272;intro t8 ee273;subst ee273;intro hC;refine ob1 (zhn hv) ?_;intro o ee274;subst ee274;intro ho
  delta L_law_parts_1
  refine ob14 (List.getElem?_eq_some_iff.mp ho) ?_;intro hj ho';have no:o∉M++K.take j:=fun m=>(qao.mp m).elim (hd o (qav ho)) fun m=>by
   refine lift fun g9 k9=>?_;obtain ⟨u,hu,e⟩:=List.mem_take_iff_getElem.mp m
   apply k9
   clear k9 g9;have:=(List.getElem_inj hk).mp (e.trans ho'.symm);lia
  refine za3 zab (by rw [qat,List.length_take];unfold zao;lia) ?_
  rw [if_neg no,zbn];exact hC _ _ ⟨by rw [List.take_add_one,ho,List.append_assoc];rfl,_,rfl⟩
 ·intro ad ac zz84;refine ob60 zz84 ?_;clear zz84;intro ee275;subst ee275;intro t8 ee276;subst ee276;rw [qac,List.take_length];exact hN t8
theorem zhb {vt vk:V} {t7 t8 t9:Option V} {N:Loc->Store->Prop} {Y:XL} (hn:n<=40) (hok:∀p∈T,zap n p) (hR:Rows aj nr rs n.toNat fun i=>zaw (nb T i)) (hD:aj tr=some (.dict (D.map V.int))) (hDA:∀y,y∈D↔(0<=y/\y<n)/\y∉L) (ht:(t:Int)<n)
  (h:Gs aj aa f mt n T L t G M)
  (hN:∀ac G' M' t8,Gs aj ac f mt n T L (t+1) G' M'->N [some (.int n),some vt,some vk,some (.ref nr),some (.ref tr),some (.ref f),some (.ref mt),some (.int t),t8,t9] ac) :
  wpSs (sem zae zaj (k+1)) true L_law_parts_2 [some (.int n),some vt,some vk,some (.ref nr),some (.ref tr),some (.ref f),some (.ref mt),some (.int t),t8,t9] aa N Q Y:=by
 have skip:((t:Int)∉L->(t:Int)∈(G.map Prod.snd).flatten)->N [some (.int n),some vt,some vk,some (.ref nr),some (.ref tr),some (.ref f),some (.ref mt),some (.int t),t8,t9] aa:=fun g=>hN aa G M t8 { h with gt:=h.gt.skip g,few:=Nat.le_succ_of_le h.few }
 delta L_law_parts_2
 refine zaa (a:=decide ((t:Int)∈D)) (by rw [zcV];exact zbN (h.ext _ _ hD)) ?_
 by_cases hoD:(t:Int)∈D
 ·rw [qaf hoD];refine zaI (zaa (a := !decide ((t:Int)∈M)) (by rw [zaN,zbN h.met];rfl) ?_)
  by_cases hoM:(t:Int)∈M
  ·rw [qaf hoM];exact zaq (skip fun J=>(h.mem t).mp hoM)
  ·rw [qai hoM];refine zaI (zak h.top ?_)
   delta zau zna
   refine zi4 hn hok (hR.ext h.ext) (h.ext _ _ hD) hDA hoD fun am b K e1 hb hb1 p=>?_;have hbf:b≠f:=(zaH h.top hb).symm;have hbm:b≠mt:=(zaH h.met hb).symm;have hfm:f≠mt:=za7 h.top h.met fun e=>by cases e
   have hno:(t:Int)∉(G.map Prod.snd).flatten:=fun m=>hoM ((h.mem t).mpr m);have gp:=h.gt.put p hno;have hdis:∀y∈K,y∉M:=fun y hy m=>by
    have:=gp.nod;rw [List.flatten_append,List.flatten_singleton] at this;exact (List.nodup_append.mp this).2.2 y ((h.mem y).mp m) y hy rfl
   have hKl:K.length<=40:=za5 (m:=40) p.nod fun z hz=>by have:=(p.inn z hz).1;lia
   have hfew:=h.few;have hf1:=e1 _ _ h.top;refine zaJ hf1 (by rw [qac];unfold zao;lia) ?_
   have E2:Ext aj (am.upd f (.list ((G.map fun p=>V.ref p.1)++[.ref b]))):=(h.ext.trans e1).upd h.f0;have hf2:(am.upd f (.list ((G.map fun p=>V.ref p.1)++[.ref b]))) f=some (.list ((G++[(b,K)]).map fun p=>V.ref p.1)):=by rw [zab,List.map_append];rfl
   have hm2:(am.upd f (.list ((G.map fun p=>V.ref p.1)++[.ref b]))) mt=some (.dict (M.map V.int)):=(zaf hfm.symm).trans (e1 _ _ h.met);have hr2:∀p∈G++[(b,K)],p.1≠f/\(am.upd f (.list ((G.map fun p=>V.ref p.1)++[.ref b]))) p.1=some (.list (p.2.map V.int)):=fun p hp=>by
    refine (qao.mp hp).elim (fun hp=>⟨(h.row p hp).1,(zaf (h.row p hp).1).trans (e1 _ _ (h.row p hp).2)⟩) fun hp=>?_;rw [qah.mp hp];exact ⟨hbf,(zaf hbf).trans hb1⟩
   generalize am.upd f (.list ((G.map fun p=>V.ref p.1)++[.ref b]))=au at *
   delta T_law_parts_1 zmz
   refine zfj hf2 (by decide) (by rw [qac,qat,List.length_singleton];lia) (v:=.ref b) ?_ ?_
   ·rw [qau,qac,qat,List.length_singleton,show (-1:Int).natAbs=1 from rfl,Nat.add_sub_cancel,List.getElem?_append_right (qal _),Nat.sub_self];rfl
   have hb2:=(hr2 (b,K) (qap _ (qah.mpr rfl))).2;refine zbp hb2 (zlR hb2 hm2 (h.len hn) hKl h.nod hdis p.nod fun t8=>?_);refine hN _ (G++[(b,K)]) (M++K) t8 ⟨E2.upd h.m0,h.f0,h.m0,(zaf hfm).trans hf2,zab,fun p hp=>⟨(hr2 p hp).1,(zaf (za7 (hr2 p hp).2 hm2 fun e=>by cases e)).trans (hr2 p hp).2⟩,List.nodup_append.mpr ⟨h.nod,p.nod,fun a ha b hb e=>hdis b hb (e▸ha)⟩,fun y=>?_,?_,by rw [qat,List.length_singleton];lia⟩
   ·rw [List.map_append,List.flatten_append,qao,qao,h.mem y];show _↔_\/y∈[K].flatten;rw [List.flatten_singleton]
   ·rw [List.map_append];exact gp
 ·rw [qai hoD];exact zaq (zaq (skip fun z=>absurd ((hDA t).mpr ⟨⟨by lia,ht⟩,z⟩) hoD))
theorem zhc {t tk:Addr} (ht:aa t=some (.list (T.map pr))) (htk:aa tk=some (.list (L.map V.int))) (h1:1<=n) (h2:n<=40) (hT:T.Nodup/\∀p∈T,zap n p)
  (hQ:∀(ac:Store) (f:Addr) (G:List (Addr×List Int)),Ext aa ac->ac f=some (.list (G.map fun p=>V.ref p.1))->(∀p∈G,ac p.1=some (.list (p.2.map V.int)))->G.length<=40->Pts n.toNat (Nb T) L (G.map Prod.snd)->Q (.ref f) ac) :
  (sem zae zaj (k+2) true).run "" "_law_parts" [.int n,.ref t,.ref tk] aa Q X:=by
 refine zag (F:=zcZ) rfl ⟨rfl,?_⟩
 delta zcZ zau znb
 refine zj3 ht h1 h2 hT fun nr rs am e1 hR=>?_
 delta T_law_parts_6
 refine ⟨by lia,?_⟩
 refine zbk (c:=fun i => !decide (i∈L)) (h:=fun i=>V.tup [.int i,.bool true]) (fun J J=>trivial) (by rw [za2];unfold zao;lia) (fun i J ac e' K hK=>?_) fun au c e2 J hc=>?_
 ·refine zaa (a := !decide (i∈L)) (by rw [zaN,zhj (e' _ _ (e1 _ _ htk))];rfl) (go_b ?_)
  have:=hK ac .rfl
  by_cases z:i∈L
  ·rw [qaf z] at this ⊢;exact this
  ·rw [qai z] at this ⊢;exact ⟨sz2,this⟩
 have hDA:∀y,y∈(upto 0 n 1).filter (fun i => !decide (i∈L))↔(0<=y/\y<n)/\y∉L:=fun y=>by rw [List.mem_filter,zh2,Bool.not_eq_true',decide_eq_false_iff_not]
 have hDn:((upto 0 n 1).filter fun i => !decide (i∈L)).Nodup:=upto_nodup.filter _;have hDl:((upto 0 n 1).filter fun i => !decide (i∈L)).length<=1000:=qak (List.length_filter_le ..) (by rw [za2];lia)
 generalize (upto 0 n 1).filter (fun i => !decide (i∈L))=D at *;refine ⟨rfl,zak hc ⟨D,⟨rfl,by rw [qac];exact hDl⟩,?_⟩⟩
 have fk:(D.map V.int).foldl (fun d k=>zaY k d) []=D.map V.int:=zgl (acc:=[]) hDn;rw [fk];intro tr htr;have e3:=e2.upd (o:=.dict (D.map V.int)) (e2.none htr);have htr3:(au.upd tr (.dict (D.map V.int))) tr=some (.dict (D.map V.int)):=zab;generalize au.upd tr (.dict (D.map V.int))=ax at *
 delta T_law_parts_5
 refine ⟨by decide,fun f hf=>?_⟩
 delta T_law_parts_4
 intro mt hmt
 delta T_law_parts_3
 refine ⟨by lia,?_⟩
 have hfm:f≠mt:=zaH zab hmt;have hm0:ax mt=none:=(Ext.rfl.upd hf).none hmt;refine zaF (fun m ad ac=>∃G M t7 t8 t9,Gs ax ac f mt n T L m G M/\ad=[some (.int n),some (.ref t),some (.ref tk),some (.ref nr),some (.ref tr),some (.ref f),some (.ref mt),t7,t8,t9])
  ⟨[],[],none,none,none,⟨(Ext.rfl.upd hf).upd hm0,hf,hm0,(zaf hfm).trans zab,zab,fun p hp=>absurd hp qam,.nil,fun y=>Iff.rfl,.zero,qal _⟩,rfl⟩ (fun J J J J=>trivial) ?_ ?_
 ·intro m v ad ac K hv zz85;refine ob77 zz85 ?_;clear zz85;intro G M t7 t8 t9 g ee277;subst ee277;intro hK;refine ob16 (zbl hv) ?_;intro ee278;subst ee278;intro hm;rw [Int.zero_add] at hm ⊢;refine zhb (t7:=t7) h2 hT.2 (hR.ext e3) htr3 hDA hm g fun ay G' M' t8' g'=>?_;exact hK _ _ ⟨G',M',_,t8',_,g',rfl⟩
 ·intro ad ac zz86;refine ob77 zz86 ?_;clear zz86;intro G M t7 t8 t9 g ee279;subst ee279;rw [qac,za2] at g
  delta T_law_parts_2
  exact hQ ac f G ((e1.trans e3).trans g.ext) g.top (fun p hp=>(g.row p hp).2) (by have:=g.few;lia) g.gt.pts
end
section
variable {n:Int} {T P:List (Int×Int)} {M:Int->Int} {i:Int}
theorem Bst.mx (ok:∀p∈T,zap n p) (h:Bst T P):Mx n.toNat (Nb T) (mt P.reverse):=by
 refine ⟨(zbj ok h.1.1 h.1.2).mg,fun N hN=>?_⟩;have v:Mt n T N:=⟨ok,fun x hx=>(hN x hx).2⟩;rw [v.cov,h.1.cov ok];exact Nat.mul_le_mul_left _ (h.2 _ v.pg)
theorem Mx.bst (ok:∀p∈T,zap n p) (h:Mx n.toNat (Nb T) M):Bst T (zbo n.toNat M):=by
 have v:Mt n T M:=⟨ok,fun x hx=>(h.1 x hx).2⟩;refine ⟨v.pg,fun P' h'=>?_⟩;have:=h.2 _ (zbj ok h'.1 h'.2).mg;rw [v.cov,h'.cov ok] at this
 lia
theorem zdG (ok:∀p∈T,zap n p) (r:0<=i/\i<n):Miss n.toNat (Nb T) i↔bd T i=false:=by
 constructor
 ·intro zz87;refine ob72 zz87 ?_;clear zz87;intro J M hM f;have v:Mt n T M:=⟨ok,fun x hx=>(hM.1 x hx).2⟩;exact zim fun z=>by have:=(zbz v).mp (z _ (hM.bst ok));lia
 ·intro z;refine ob14 (Classical.not_forall.mp fun y=>qan (z.symm.trans (zkU y))) ?_;intro L hL;refine ob16 (Classical.not_imp.mp hL) ?_;intro b no;exact ⟨⟨r.1,by lia⟩,_,b.mx ok,(zf4 (b.1.ok ok) b.1.2 i).mpr no⟩
theorem mem_fen:i∈fen n.toNat T↔(0<=i/\i<n)/\fc T i=true:=by
 unfold fen;rw [List.mem_filter,List.mem_map];refine and_congr_left fun J=>⟨fun ⟨k,hk,e⟩=>by have:=List.mem_range.mp hk;lia,fun h=>⟨i.toNat,List.mem_range.mpr (by lia),Int.toNat_of_nonneg h.1⟩⟩
theorem fen_sorted {t:Nat}:(fen t T).Pairwise (· < ·):=by
 refine List.Pairwise.filter _ ?_;rw [List.pairwise_map];exact List.pairwise_lt_range.imp fun h=>by lia
theorem zjf (ok:∀p∈T,zap n p) (h:Bst T P) {Ps:List (List Int)} (g:Pts n.toNat (Nb T) (fen n.toNat T) Ps):n.toNat+(fen n.toNat T).length=2*P.length+(Ps.filter fun K=>decide (K.length%2=1)).length:=by
 have gn:Gn n.toNat (Nb T):=fun i j e=>by have:=zcG ok e;exact ⟨zcN e,this.2.2,this.1.1,by lia⟩
 rw [←h.1.cov ok];refine zmd gn (fun N hN=>?_) (h.mx ok) (fen_sorted.imp fun h e=>by lia) (fun a=>?_) g
 ·have v:Mt n T N:=⟨ok,fun x hx=>(hN x hx).2⟩;rw [v.cov];lia
 ·rw [mem_fen];unfold fc;rw [qae,List.any_eq_true]
  constructor
  ·intro zz88;refine ob75 zz88 ?_;clear zz88;intro r b d hd z;have hd':=zcG ok hd;exact ⟨⟨r.1,by lia⟩,fun m=>qan (((zdG ok r).mp m).symm.trans b),d,hd,(zdG ok hd'.2.1).mpr (Bool.not_eq_true' _ |>.mp z)⟩
  ·intro zz89;refine ob75 zz89 ?_;clear zz89;intro r b d hd z;have hd':=zcG ok hd;exact ⟨hd'.1,Bool.not_eq_false _ |>.mp fun e=>b ((zdG ok hd'.1).mpr e),d,hd,by rw [(zdG ok hd'.2.1).mp z];rfl⟩
noncomputable def lft (n:Int) (P:List (Int×Int)):List Int:=(upto 0 n 1).filter fun i => !decide (i∈P.flatMap fun p=>[p.1,p.2])
theorem mem_flat2:i∈P.flatMap (fun p=>[p.1,p.2])↔i∈places P:=by
 rw [List.mem_flatMap,mem_places];refine ⟨fun ⟨p,hp,e⟩=>⟨p,hp,?_⟩,fun ⟨p,hp,e⟩=>⟨p,hp,?_⟩⟩
 ·exact (qad.mp e).imp Eq.symm fun e=>(qah.mp e).symm
 ·exact e.elim (fun e=>e▸qaj ..) fun e=>e▸qag _ (qaj ..)
theorem mem_lft:i∈lft n P↔(0<=i/\i<n)/\i∉places P:=by
 unfold lft;rw [List.mem_filter,zh2,Bool.not_eq_true',decide_eq_false_iff_not,mem_flat2]
theorem znC (ok:∀p∈T,zap n p) (h:Pg T P):(lft n P).length+2*P.length=n.toNat:=by
 have hpl:(places P).length=2*P.length:=by
  unfold places;rw [qat,qac,qac];lia
 have:=zfq (n:=n.toNat) (p:=fun J=>true) (l:=lft n P++places P) (List.nodup_append.mpr ⟨upto_nodup.filter _,zbF (h.ok ok) h.2,fun a ha b hb e=>(mem_lft.mp ha).2 (e▸hb)⟩) fun i=>by
  rw [qao,mem_lft];refine ⟨fun z=>⟨z.elim (fun z=>⟨z.1.1,by lia⟩) fun z=>?_,rfl⟩,fun z=>(Classical.em (i∈places P)).elim .inr fun no=>.inl ⟨⟨z.1.1,by lia⟩,no⟩⟩
  refine ob1 (mem_places.mp z) ?_;intro p hp e;refine ob19 (h.ok ok p hp) ?_;intro h1 h2 h3
  rcases e with rfl |rfl
  ·exact ⟨h1,by lia⟩
  ·exact ⟨by lia,by lia⟩
 rw [qat,hpl] at this;rw [←this];unfold cnt;rw [List.countP_true,List.length_range]
end
section
variable {k:Nat} {aa:Store} {Q:V->Store->Prop} {X:XP} {x d r l t f:Addr} {rs:List Addr} {n:Int} {T P:List (Int×Int)} {K:List Int}
theorem zlp:(zae "" "_law_alone").isSome=true:=rfl
theorem zjG:(zae "" "_law_fenced").isSome=true:=rfl
theorem zlm:(zae "" "_law_parts").isSome=true:=rfl
theorem zgm:∀{P:List (Int×Int)},(P.flatMap fun p=>[p.1,p.2]).length=2*P.length
 | []=>rfl
 |p::P=>by
  rw [List.flatMap_cons,qat,zgm,List.length_cons,List.length_cons,List.length_nil,List.length_cons];lia
noncomputable def zd8 (P:List (Int×Int)):Int×Int:=P.getLast?.getD (-1,-1)
theorem zjp {tk:Addr} {D:List Int} {p:Int×Int} {t6:Option V} {N:Loc->Store->Prop} {Y:XL} (ht:aa t=some (.list (T.map pr))) (hk:aa tk=some (.dict (D.map V.int))) (hp:p∈T) (hP:zap n p) (hl:zaK (zd8 P) p) (h1:p.1∉D) (h2:p.2∉D) (hD:D.length<=1000)
  (hN:N [some (.int n),some (.ref t),some (.ref l),some (.ref tk),some (pr p),some (pr p),t6] (aa.upd tk (.dict ((D++[p.1,p.2]).map V.int)))) :
  wpSs (sem zae zaj (k+1)) true L_law_alone_1 [some (.int n),some (.ref t),some (.ref l),some (.ref tk),some (pr (zd8 P)),some (pr p),t6] aa N Q Y:=by
 have e3:cmpV aa .Lt (pr (zd8 P)) (pr p)=some true:=by
  show some (decide ((zd8 P).1<p.1)||((zd8 P).1==p.1&&decide ((zd8 P).2<p.2)))=_
  rcases hl with h |⟨h,h'⟩
  ·rw [qaf h];rfl
  ·rw [h,qaf h',beq_self_eq_true,Bool.and_true,Bool.or_true]
 have hne:p.1≠p.2:=by have:=hP.2.1;lia
 delta L_law_alone_1
 refine zaa (a:=true) rfl (go_b (b:=true) (za0 ⟨sz2,zaa (a:=false) rfl (za0 (zaa (a:=false) ?_ (zaq ?_)))⟩))
 ·rw [zaN,zgg ht,qaf hp];rfl
 delta T_law_alone_5 zau zc3
 refine zbP (zbx (go_b (b:=true) (za0 (zbO (zbx (go_b (b:=true) (za0 (zaa e3 (go_b (b:=true) (zaq ?_))))))))))
 delta T_law_alone_4
 refine zbP (zaa (a:=false) (by rw [zcV,zbN hk,qai h1]) (za0 (zbO (zaa (a:=false) (by rw [zcV,zbN hk,qai h2]) (zaq ?_)))))
 delta T_law_alone_3
 refine zbP (za3 hk (by unfold zao;lia) ?_)
 rw [if_neg h1]
 delta T_law_alone_2 T_law_alone_1
 have h3:p.2∉D++[p.1]:=fun m=>(qao.mp m).elim h2 fun m=>hne (qah.mp m).symm;refine zbO (za3 zab (by rw [qat,List.length_singleton];unfold zao;lia) ?_)
 rw [if_neg h3,zbn,List.append_assoc];exact hN
theorem zjq (ht:aa t=some (.list (T.map pr))) (hl:aa l=some (.list (P.map pr))) (hT:∀p∈T,zap n p) (hn:1<=n/\n<=40) (hg:Pg T P) (hp:P.Pairwise zaK)
  (hQ:∀ac a,Ext aa ac->aa a=none->ac a=some (.list ((lft n P).map V.int))->Q (.ref a) ac):(sem zae zaj (k+2) true).run "" "_law_alone" [.int n,.ref t,.ref l] aa Q X:=by
 refine ob16 hg ?_;clear hg;intro hs hd;have hlen:=zcD (fun p h=>hT p (hs p h)) hd (by lia) hn.2
 refine zag (F:=zc0) rfl ⟨rfl,?_⟩
 delta zc0
 refine zaa (isl hl) (go_b (b:=true) (zaq ?_))
 delta T_law_alone_9
 intro tk htk
 delta T_law_alone_8
 refine ⟨sz2,?_⟩
 delta T_law_alone_7
 have hE:=(Ext.rfl (aa:=aa)).upd (o:=.dict []) htk;refine zbp (hE _ _ hl) ?_;refine zaF (fun i ad ac=>i<=P.length/\∃t5 t6,Ext aa ac/\ac tk=some (.dict ((((P.take i).flatMap fun p=>[p.1,p.2])).map V.int))/\ad=[some (.int n),some (.ref t),some (.ref l),some (.ref tk),some (pr (zd8 (P.take i))),t5,t6])
  ⟨Nat.zero_le _,_,_,hE,zab,rfl⟩ ?_ ?_ ?_
 ·intro i ad ac zz90;refine ob37 zz90 ?_;clear zz90;intro hi t5 t6 e J;exact e _ _ hl
 ·intro i v ad ac C hv zz91;refine ob30 zz91 ?_;clear zz91;intro hi t5 t6 e g ee280;subst ee280;intro hK;refine ob14 (zh8 hv) ?_;intro hi' ee281;subst ee281;have hmem:P[i]∈P:=List.getElem_mem hi';have hto:=hT _ (hs _ hmem);have htake:P.take (i+1)=P.take i++[P[i]]:=List.take_succ_eq_append_getElem hi';have sub:∀p∈P.take i,zaK p P[i]/\¬Touch p P[i]:=fun p hp'=>by
   refine lift fun g9 k9=>?_;obtain ⟨u,hu,e'⟩:=List.mem_take_iff_getElem.mp hp'
   apply k9
   clear k9 g9;subst e';exact ⟨List.pairwise_iff_getElem.mp hp u i _ _ (by lia),List.pairwise_iff_getElem.mp hd u i _ _ (by lia)⟩
  have hnot:∀y,y=P[i].1\/y=P[i].2->y∉(P.take i).flatMap fun p=>[p.1,p.2]:=fun y hy m=>by
   refine ob1 (mem_places.mp (mem_flat2.mp m)) ?_;intro p hp' m;have:=(sub p hp').2;unfold Touch at this
   lia
  have hDl:((P.take i).flatMap fun p=>[p.1,p.2]).length<=1000:=by
   rw [zgm,List.length_take];lia
  have hlast:zaK (zd8 (P.take i)) P[i]:=by
   unfold zd8;cases hg:(P.take i).getLast? with
   |none=>exact .inl (show (-1:Int)<P[i].1 by have:=hto.1;lia)
   |some q=>exact (sub q (List.mem_of_getLast? hg)).1
  refine zjp (n:=n) (P:=P.take i) (e _ _ ht) g (hs _ hmem) hto hlast (hnot _ (.inl rfl)) (hnot _ (.inr rfl)) hDl ?_;refine hK _ _ ⟨hi',some (pr P[i]),t6,e.upd htk,?_,?_⟩
  ·rw [zab,htake,List.flatMap_append];rfl
  ·rw [htake,show zd8 (P.take i++[P[i]])=P[i] by unfold zd8;rw [List.getLast?_concat];rfl]
 ·intro ad ac zz92;refine ob30 zz92 ?_;clear zz92;intro hi t5 t6 e g ee282;subst ee282;rw [qac,List.take_length] at g
  delta T_law_alone_6
  refine ⟨by lia,zbk (c:=fun i => !decide (i∈P.flatMap fun p:Int×Int=>[p.1,p.2])) (h:=V.int) (fun J J=>trivial) (by rw [za2];unfold zao;lia) (fun i J au e2 C hC=>?_) fun au a e2 fr ha=>hQ _ a (e.trans e2) (e.none fr) ha⟩
  exact zaa (a := !decide (i∈P.flatMap fun p:Int×Int=>[p.1,p.2])) (by rw [zaN,zbN (e2 _ _ g)];rfl) (zkk (hC _ .rfl))
theorem zpz {α:Type} {l:List α} {a:Addr} (ha:aa a=some (.list (l.map fun J=>V.bool true))) (q:Q (.bool true) aa):b1V true .all (.ref a) aa Q:=by
 refine ⟨rfl,zak ha (zaa (zgv (f:=fun J=>true)) ?_)⟩;rw [show (l.map fun J=>true).all id=true from List.all_eq_true.mpr fun b hb=>by obtain ⟨_,_,rfl⟩:=List.mem_map.mp hb;rfl]
 exact q
theorem znu {m:Nat}:((m:Int).fmod 2==1)=decide (m%2=1):=by
 rw [Bool.eq_iff_iff,beq_iff_eq,qaq,Int.fmod_eq_emod_of_nonneg _ (by decide)];lia
theorem zjd {m:Int} {t4 t5 t6:Option V} {N:Loc->Store->Prop} {Y:XL} (ht:aa t=some (.list (T.map pr))) (hf:aa f=some (.list (K.map V.int))) (hT:T.Nodup/\∀p∈T,zap n p) (hn:1<=n/\n<=40)
  (hm:∀Ps,Pts n.toNat (Nb T) K Ps->m+K.length=(Ps.filter fun K=>decide (K.length%2=1)).length) (hQ:∀ac,Ext aa ac->Q (.bool true) ac) :
  wpSs (sem zae zaj (k+2)) true T_law_fenced_2 [some (.int n),some (.ref t),some (.ref f),some (.int m),t4,t5,t6] aa N Q Y:=by
 delta T_law_fenced_2 zau zlm
 refine zhc ht hf hn.1 hn.2 hT fun am g G e1 hg hr hl pts=>?_;refine zbp hg (zbk (c:=fun p:Addr×List Int=>decide (p.2.length%2=1)) (h:=fun p=>V.ref p.1) (fun ac e=>e _ _ hg) (by unfold zao;lia) (fun p hp au e2 C hC=>?_) fun au a e2 J ha=>?_)
 ·rw [zcQ (e2 _ _ (hr p hp)),qac];exact ⟨by decide,zaa (a:=decide (p.2.length%2=1)) (by rw [←znu];rfl) (zkk (hC _ .rfl))⟩
 ·delta T_law_fenced_1
  rw [zcQ ha,zcQ (e2 _ _ (e1 _ _ hf))];have:=hm _ pts;rw [List.filter_map,qac] at this;have e:cmpV au .Eq (.int m) (.int (((((G.filter fun p=>decide (p.2.length%2=1)).map fun p=>V.ref p.1).length:Nat):Int)-((K.map V.int).length:Nat)))=some true:=by
   rw [qac,qac];show some (m==_)=some true;rw [beq_iff_eq.mpr];have e:(G.filter ((fun K=>decide (K.length%2=1))∘Prod.snd)).length=(G.filter fun p=>decide (p.2.length%2=1)).length:=rfl
   lia
  exact zaa (K:=fun r=>Q (.bool r) au) e (hQ _ (e1.trans e2))
theorem zhq {m:Int} (ht:aa t=some (.list (T.map pr))) (hf:aa f=some (.list (K.map V.int))) (hT:T.Nodup/\∀p∈T,zap n p) (hn:1<=n/\n<=40) (hK:K.Pairwise (· < ·)) (hi:∀i∈K,0<=i/\i<n)
  (hm:∀Ps,Pts n.toNat (Nb T) K Ps->m+K.length=(Ps.filter fun K=>decide (K.length%2=1)).length)
  (hQ:∀ac,Ext aa ac->Q (.bool true) ac):(sem zae zaj (k+3) true).run "" "_law_fenced" [.int n,.ref t,.ref f,.int m] aa Q X:=by
 have hlen:K.length<=40:=za5 (m:=40) (hK.imp fun h e=>by lia) fun i h=>by have:=hi i h;lia
 refine zag (F:=zcu) rfl ⟨rfl,?_⟩
 delta zcu zau zc3
 refine zaa (isl hf) (go_b (b:=true) (za0 (zbp hf (zbk (c:=fun J=>true) (h:=fun J=>V.bool true) (fun ac e=>e _ _ hf) (by unfold zao;lia) (fun i J au e2 C hC=>?_) fun am a e1 J ha=>?_))))
 ·exact zfc rfl (zbx (hC _ .rfl))
 rw [List.filter_eq_self.mpr fun J J=>rfl] at ha;refine zpz ha (go_b (b:=true) (zaq ?_));have hf1:=e1 _ _ hf
 delta T_law_fenced_3
 refine ⟨rfl,zak hf1 (zaa (ints?_map K) ⟨⟨by rw [qac];lia,hK.imp fun h e=>by lia⟩,fun ws hw1 hw2 b hb=>?_⟩)⟩
 have:ws=K:=zdx (hw1.imp fun h=>by lia) (hK.imp fun h=>by lia) ((List.perm_ext_iff_of_nodup (hw1.imp fun h e=>by lia) (hK.imp fun h e=>by lia)).mpr hw2)
 subst this;have e2:=(Ext.rfl (aa:=am)).upd (o:=.list (ws.map V.int)) hb;have hb2:(am.upd b (.list (ws.map V.int))) b=some (.list (ws.map V.int)):=zab;generalize am.upd b (.list (ws.map V.int))=au at *;have hf2:=e2 _ _ hf1;refine zaa (a:=false) (by rw [zcU,zfm hf2 hb2];rfl) (za0 ⟨by decide,fun c hc=>?_⟩)
 have e3:=(Ext.rfl (aa:=au)).upd (o:=.list []) hc;have hc3:(au.upd c (.list [])) c=some (.list []):=zab;generalize au.upd c (.list [])=ax at *;have hf3:=e3 _ _ hf2;have E:Ext aa ax:=(e1.trans e2).trans e3;have fin:=zjd (k:=k) (n:=n) (m:=m) (Q:=Q) (N:=fun J ac=>Q .none ac) (Y:=fun c a J ac=>X c a ac) (t4:=none) (t5:=none) (t6:=none) (E _ _ ht) hf3 hT hn hm fun ac e=>hQ ac (E.trans e);refine zaa (a := !(ws.map V.int).isEmpty) (by rw [zcU,zkB hf3 hc3];rfl) ?_
 cases ws with
 |nil=>exact zaq (aa:=ax) (zaq fin)
 |cons u us=>
  have hu:=hi u (qaj ..);refine zaI (aa:=ax) (zbQ hf3 (by decide) rfl (zaa (a:=decide (u<0)) rfl ?_))
  rw [qai (by lia:¬u<0)]
  have hne:u::us≠[]:=List.cons_ne_nil _ _;have hlst:((u::us).map V.int)[((u::us).map V.int).length-(-1:Int).natAbs]?=some (.int ((u::us).getLast hne)):=by
   rw [qau,qac,show (-1:Int).natAbs=1 from rfl,←List.getLast?_eq_getElem?,List.getLast?_eq_some_getLast hne];rfl
  refine za0 (zfj hf3 (by decide) (by rw [qac,List.length_cons];lia) hlst (zaa (a:=decide (n<=(u::us).getLast hne)) rfl ?_))
  have hg:=hi _ (List.getLast_mem hne);rw [qai (by lia:¬n<=(u::us).getLast hne)]
  exact zaq fin
end
section
variable {k:Nat} {aa ac:Store} {Q:V->Store->Prop} {X:XP} {κ e x d r b:Addr} {rs:List Addr} {n:Int} {S T P:List (Int×Int)} {v w:V}
def Bad (n:Int):V->Prop
 |.int i=>i<0\/n<=i
 |.bool _ |.str _ |.none=>True
 |_=>False
theorem zcn (h:Bad n v) (q:Q (.bool false) aa):(sem zae zaj (k+1) true).run "" "is_place" [v,.int n] aa Q X:=by
 refine zag (F:=zds) rfl ⟨rfl,?_⟩;cases v with
 |int i=>
  show if decide (0<=i)=true then Q (.bool (decide (i<n))) aa else Q (.bool false) aa
  by_cases z:0<=i
  ·rw [qaf z,if_pos rfl,qai (by have:i<0\/n<=i:=h;lia)];exact q
  ·rw [qai z];exact q
 |tup _=>exact h.elim
 |ref _=>exact h.elim
 |_=>exact q
structure KeptAt (aa:Store) (κ e x d r:Addr) (rs:List Addr) (b:Addr) (n:Int) (T P:List (Int×Int)):Prop where
 top:aa κ=some (.inst "Kept" e)
 dic:aa e=some (.ns [("now",.ref x),("best",.ref b)])
 net:NetAt aa x d r rs n T
 lst:aa b=some (.list (P.map pr))
 max:Bst T P
 srt:P.Pairwise zaK
theorem KeptAt.ext (h:KeptAt aa κ e x d r rs b n T P) (g:Ext aa ac):KeptAt ac κ e x d r rs b n T P:=⟨g _ _ h.top,g _ _ h.dic,h.net.ext g,g _ _ h.lst,h.max,h.srt⟩
variable {md:Bool}
theorem fldKn:(sem zae zaj k md).fld "Kept" "now" := by rw [zh6];rfl
theorem fldKb:(sem zae zaj k md).fld "Kept" "best" := by rw [zh6];rfl
theorem zhM:(zae "Kept" "__init__").isSome=true:=rfl
theorem tb_need:(zae "Kept" "need_tie").isSome=true:=rfl
theorem tb_become:(zae "Kept" "become").isSome=true:=rfl
theorem tb_put:(zae "Kept" "put").isSome=true:=rfl
theorem tb_kcut:(zae "Kept" "cut").isSome=true:=rfl
theorem tb_knet:(zae "Kept" "net").isSome=true:=rfl
theorem tb_pairs:(zae "Kept" "pairs").isSome=true:=rfl
theorem zcm {m:Nat} {K:V->Prop} (h:KeptAt aa κ e x d r rs b n T P) (g:K (.ref x)):zb9 (sem zae zaj m md).fld (.ref κ) "now" aa K:=zaP h.top h.dic fldKn rfl g
theorem zfv {m:Nat} {K:V->Prop} (h:KeptAt aa κ e x d r rs b n T P) (g:K (.ref b)):zb9 (sem zae zaj m md).fld (.ref κ) "best" aa K:=zaP h.top h.dic fldKb rfl g
theorem zd9 (h:KeptAt aa κ e x d r rs b n T P) (hS:zb0 n S) (hp:T.Perm S) (hl:S.length<=1600)
  (hQ:∀ac y dy r' rs',Ext aa ac->(∀z∈y::dy::r'::rs',aa z=none)->NetAt ac y dy r' rs' n S->Q (.ref y) ac):(sem zae zaj (k+4) true).run "Kept" "net" [.ref κ] aa Q X:=by
 have hlo:=h.net.lo;have hhi:=h.net.hi;refine zag (F:=zdu) rfl ⟨rfl,?_⟩
 delta zdu zau zdW
 refine zcm h (zaX h.net (zcm h ?_));refine zah h.net.top h.net.dic ⟨⟨rfl,tb_ties⟩,zaV h.net fun c hc=>?_⟩;rw [zaW hS hp.symm];have e2:=(Ext.rfl (aa:=aa)).upd (o:=.list (S.map pr)) hc;have hc2:(aa.upd c (.list (S.map pr))) c=some (.list (S.map pr)):=zab;generalize aa.upd c (.list (S.map pr))=au at *;intro y dy hy hdy hyd;have hno:S.Nodup:=hp.nodup_iff.mp h.net.nod;refine zdb (d:=dy) (H:=S) zab (by rw [zaf hyd.symm,zab]) hyd ((zaf (zaH hc2 hy)).trans ((zaf (zaH hc2 hdy)).trans hc2)) hlo hhi hno hS.2 (by lia) ?_
 intro ay r' rs' hF hd' hR hr hrs hrr;have e4:=zcB hy hdy hF;have eM:Ext au ((au.upd dy (.ns [])).upd y (.inst "Net" dy)):=(Ext.rfl.upd hdy).trans (Ext.rfl.upd (by rw [zaf hyd];exact hy))
 have hnew:∀z∈y::dy::r'::rs',aa z=none:=fun z m=>e2.none (by
  rcases qad.mp m with rfl |m
  ·exact hy
  rcases qad.mp m with rfl |m
  ·exact hdy
  rcases qad.mp m with rfl |m
  ·exact eM.none hr
  ·exact eM.none (hrs z m))
 exact ⟨rfl,hQ ay y dy r' rs' (e2.trans e4) hnew ⟨hF y _ hyd zab,hd',hR,hlo,hhi,hno,hS.2⟩⟩
theorem zeG (h:KeptAt aa κ e x d r rs b n T P)
  (hQ:∀a,aa a=none->Q (.ref a) (aa.upd a (.list (P.map pr)))):(sem zae zaj (k+1) true).run "Kept" "pairs" [.ref κ] aa Q X:=by
 have hlo:=h.net.lo;have hhi:=h.net.hi;have ok:=h.max.1.ok h.net.ok;refine zag (F:=zcx) rfl ⟨rfl,?_⟩
 delta zcx
 refine zfv h (zlt h.lst ok h.max.1.2 (by lia) hhi fun a ha=>?_)
 rw [←zjA ok h.max.1.2 (List.Perm.refl P) h.srt];exact hQ a ha
theorem zf3 {i j:Int} (h:KeptAt aa κ e x d r rs b n T P) (hi:0<=i/\i<n) (hj:0<=j/\j<n) (hij:i≠j) (hQ:Q (pr (min i j,max i j)) aa) :
  (sem zae zaj (k+2) true).run "Kept" "need_tie" [.ref κ,.int i,.int j] aa Q X:=by
 refine zag (F:=zaS) rfl ⟨rfl,?_⟩
 delta zaS zau zbe
 refine zcm h (zaX h.net (zaz hi.1 hi.2 ?_));refine go_b (b:=true) (za0 (zcm h (zaX h.net (zaz hj.1 hj.2 ?_))));refine go_b (b:=true) (za0 ?_);refine zaa (a:=false) (congrArg some (beq_eq_false_iff_ne.mpr hij)) (zaq ?_)
 delta T_Kept_need_tie_1
 exact ⟨sz2,hQ⟩
theorem NetAt.frm {fs:List (String×V)} (h:NetAt aa x d r rs n T) (g:Frm e aa ac) (he:aa e=some (.ns fs)) (hf:fs.lookup "size" = none):NetAt ac x d r rs n T:=by
 have nx:x≠e:=fun q=>by have:=h.top;rw [q,he] at this;cases this
 have nd:d≠e:=fun q=>by
  have:=h.dic;rw [q,he] at this
  injection this with this;injection this with this
  rw [this] at hf;exact absurd (show some (V.int n)=none from hf) (by intro z;cases z)
 have nl:∀a vs,aa a=some (.list vs)->a≠e:=fun a vs ha q=>by rw [q,he] at ha;cases ha
 exact ⟨g _ _ nx h.top,g _ _ nd h.dic,⟨g _ _ (nl _ _ h.rows.top) h.rows.top,h.rows.len,h.rows.nod,fun i a ha=>g _ _ (nl _ _ (h.rows.row i a ha)) (h.rows.row i a ha)⟩,h.lo,h.hi,h.nod,h.ok⟩
theorem zep {t l:Addr} {H R:List (Int×Int)} (h:KeptAt aa κ e x d r rs b n T P) (ht:aa t=some (.list (H.map pr))) (hl:aa l=some (.list (R.map pr)))
  (hno:H.Nodup) (hok:∀p∈H,zap n p) (hlen:H.length<=2000) (hg:Pg H R) (hs:R.Pairwise zaK)
  (hQ:∀ac y dy r' rs' a P',Frm e aa ac->(∀z∈y::dy::r'::rs',aa z=none)->(a=l\/aa a=none)->KeptAt ac κ e y dy r' rs' a n H P'->Q (.int ((P'.length:Int)-P.length)) ac) :
  (sem zae zaj (k+7) true).run "Kept" "become" [.ref κ,.ref t,.ref l] aa Q X:=by
 have hlo:=h.net.lo;have hhi:=h.net.hi;refine zag (F:=zce) rfl ⟨rfl,?_⟩
 delta zce
 refine zfv h ?_;rw [zcQ h.lst]
 delta T_Kept_become_3 zau zdW
 refine zcm h (zaX h.net ?_);intro y dy hy hdy hyd;refine zdb (d:=dy) (H:=H) zab (by rw [zaf hyd.symm,zab]) hyd ((zaf (zaH ht hy)).trans ((zaf (zaH ht hdy)).trans ht)) hlo hhi hno hok hlen ?_
 intro ay r' rs' hF hd' hR hr hrs hrr;have e4:=zcB hy hdy hF;have hN:NetAt ay y dy r' rs' n H:=⟨hF y _ hyd zab,hd',hR,hlo,hhi,hno,hok⟩;have h4:=h.ext e4;have hl4:=e4 _ _ hl;have eM:Ext aa ((aa.upd dy (.ns [])).upd y (.inst "Net" dy)):=(Ext.rfl.upd hdy).trans (Ext.rfl.upd (by rw [zaf hyd];exact hy))
 have hnew:∀z∈y::dy::r'::rs',aa z=none:=fun z m=>by
  rcases qad.mp m with rfl |m
  ·exact hy
  rcases qad.mp m with rfl |m
  ·exact hdy
  rcases qad.mp m with rfl |m
  ·exact eM.none hr
  ·exact eM.none (hrs z m)
 clear hF hd' hR hr hrs hrr ht eM;refine ⟨rfl,zah h4.top h4.dic ⟨⟨fldKn,show 2<100 by decide⟩,?_⟩⟩
 have F5:Frm e ay (ay.upd e (.ns [("now",.ref y),("best",.ref b)])):=fun a o na q=>(zaf na).trans q;have hN5:=hN.frm F5 h4.dic rfl;have ne:κ≠e:=fun q=>by have:=h4.top;rw [q,h4.dic] at this;cases this
 have nl:l≠e:=fun q=>by rw [q,h4.dic] at hl4;cases hl4
 have t5:=F5 _ _ ne h4.top;have l5:=F5 _ _ nl hl4;have d5:(ay.upd e (.ns [("now",.ref y),("best",.ref b)])) e=some (.ns [("now",.ref y),("best",.ref b)]):=zab;show wpSs (sem zae zaj (k+6)) true T_Kept_become_2 _ (ay.upd e (.ns [("now",.ref y),("best",.ref b)])) _ _ _;have F:Frm e aa (ay.upd e (.ns [("now",.ref y),("best",.ref b)])):=fun a o na q=>F5 a o na (e4 a o q);generalize ay.upd e (.ns [("now",.ref y),("best",.ref b)])=aJ at *
 delta T_Kept_become_2 zau zhN
 refine zaP t5 d5 fldKn rfl ?_;refine zeS hN5 l5 hg.1 hg.2 hs fun aH a P' e6 hal ha s' d' p' f'=>?_;have hal':a=l\/aa a=none:=hal.imp id fun g=>F.none (fun q=>by rw [q,d5] at g;cases g) g
 refine zah (e6 _ _ t5) (e6 _ _ d5) ⟨⟨fldKb,show 2<100 by decide⟩,?_⟩
 have F7:Frm e aH (aH.upd e (.ns [("now",.ref y),("best",.ref a)])):=fun a o na q=>(zaf na).trans q;have d6:=e6 _ _ d5;have na:a≠e:=fun q=>by rw [q,d6] at ha;cases ha
 have t7:=F7 _ _ ne (e6 _ _ t5);have hN7:=(hN5.ext e6).frm F7 d6 rfl;have a7:=F7 _ _ na ha;have d7:(aH.upd e (.ns [("now",.ref y),("best",.ref a)])) e=some (.ns [("now",.ref y),("best",.ref a)]):=zab;have FF:Frm e aa (aH.upd e (.ns [("now",.ref y),("best",.ref a)])):=(F.ext e6).trans F7;show wpSs (sem zae zaj (k+6)) true T_Kept_become_1 _ (aH.upd e (.ns [("now",.ref y),("best",.ref a)])) _ _ _;generalize aH.upd e (.ns [("now",.ref y),("best",.ref a)])=be at *
 delta T_Kept_become_1
 refine zaP t7 d7 fldKb rfl ?_;rw [zcQ a7];have fin:=hQ be y dy r' rs' a P' FF hnew hal' ⟨t7,d7,hN7,a7,zh9 hok ⟨s',d'⟩ f',p'⟩;rw [qac,qac];exact fin
theorem zlI {i j:Int} (h:KeptAt aa κ e x d r rs b n T P) (hS:zb0 n S) (hp:T.Perm S) (hl:S.length<=1600) (hi:0<=i/\i<n) (hj:0<=j/\j<n) (hij:i≠j)
  (hX:(min i j,max i j)∈S->∀ac a,Ext aa ac->ac a=none->X "TieThere" a ac)
  (hQ:(min i j,max i j)∉S->∀ac y dy r' rs' a P',Frm e aa ac->(∀z∈y::dy::r'::rs',aa z=none)->(a=b\/aa a=none)->KeptAt ac κ e y dy r' rs' a n (S++[(min i j,max i j)]) P'->Q (.int ((P'.length:Int)-P.length)) ac) :
  (sem zae zaj (k+8) true).run "Kept" "put" [.ref κ,.int i,.int j] aa Q X:=by
 refine zag (F:=zb2) rfl ⟨rfl,?_⟩
 delta zb2
 refine zah h.top h.dic ⟨⟨rfl,tb_need⟩,zf3 h hi hj hij ?_⟩;have tok:zap n (min i j,max i j):=zmH hi hj hij;generalize htie:(min i j,max i j)=q at *
 delta T_Kept_put_2
 refine zcm h ?_;refine zah h.net.top h.net.dic ⟨⟨rfl,tb_ties⟩,zaV h.net fun c hc=>?_⟩;rw [zaW hS hp.symm];have e1:=(Ext.rfl (aa:=aa)).upd (o:=.list (S.map pr)) hc;have hc1:(aa.upd c (.list (S.map pr))) c=some (.list (S.map pr)):=zab;generalize aa.upd c (.list (S.map pr))=am at *;have h1:=h.ext e1;refine zaa (a:=decide (q∈S)) (zgg hc1) ?_
 by_cases z:q∈S
 ·rw [qaf z];exact zaI ⟨by decide,fun a ha=>hX z am a e1 ha⟩
 ·rw [qai z];refine zaq ?_
  delta T_Kept_put_1
  refine zah h1.top h1.dic ⟨⟨rfl,tb_become⟩,zcm h1 ?_⟩;refine zah h1.net.top h1.net.dic ⟨⟨rfl,tb_ties⟩,zaV h1.net fun c2 hc2=>?_⟩;rw [zaW hS hp.symm];have e2:=(Ext.rfl (aa:=am)).upd (o:=.list (S.map pr)) hc2;have g2:(am.upd c2 (.list (S.map pr))) c2=some (.list (S.map pr)):=zab;generalize am.upd c2 (.list (S.map pr))=au at *;refine ⟨by decide,fun c3 hc3=>?_⟩
  have e3:=(Ext.rfl (aa:=au)).upd (o:=.list [pr q]) hc3;have g3:(au.upd c3 (.list [pr q])) c3=some (.list [pr q]):=zab;generalize au.upd c3 (.list [pr q])=ax at *;refine zmq (e3 _ _ g2) g3 (by rw [qac];unfold zao;simp only [List.length_cons,List.length_nil];lia) fun c4 hc4=>?_
  have e4:=(Ext.rfl (aa:=ax)).upd (o:=.list (S.map pr++[pr q])) hc4;have g4:(ax.upd c4 (.list (S.map pr++[pr q]))) c4=some (.list ((S++[q]).map pr)):=by rw [zab,List.map_append];rfl
  generalize ax.upd c4 (.list (S.map pr++[pr q]))=ay at *;have E4:=((e1.trans e2).trans e3).trans e4;have h4:=h.ext E4;refine zfv h4 ?_;have sub:∀p∈P,p∈S++[q]:=fun p hp'=>qaw _ (hp.mem_iff.mp (h.max.1.1 p hp'));refine zep h4 g4 h4.lst (List.nodup_append.mpr ⟨hp.nodup_iff.mp h.net.nod,qar.mpr ⟨qam,List.nodup_nil⟩,fun a ha b hb=>fun ab=>z (qah.mp hb▸ab▸ha)⟩) (fun p hp'=>(qao.mp hp').elim (hS.2 p) fun m=>qah.mp m▸tok) (by rw [qat,List.length_singleton];lia) ⟨sub,h.max.1.2⟩ h.srt ?_
  intro ac y dy r' rs' a P' F hnew ha K;exact hQ z ac y dy r' rs' a P' (fun a o na q=>F a o na (E4 a o q)) (fun z m=>E4.none (hnew z m)) (ha.imp id fun g=>E4.none g) K
theorem zmS {p q:Int×Int}:eqv aa fuel (pr p) (pr q)=some (decide (p=q)):=zmR
noncomputable def but (q:Int×Int) (T:List (Int×Int)):List (Int×Int):=T.filter fun p => !decide (p=q)
theorem mem_but {p q:Int×Int}:p∈but q T↔p∈T/\p≠q:=by
 rw [but,List.mem_filter,Bool.not_eq_true',decide_eq_false_iff_not]
theorem zkj {i j:Int} (h:KeptAt aa κ e x d r rs b n T P) (hS:zb0 n S) (hp:T.Perm S) (hl:S.length<=1600) (hi:0<=i/\i<n) (hj:0<=j/\j<n) (hij:i≠j)
  (hX:(min i j,max i j)∉S->∀ac a,Ext aa ac->ac a=none->X "NoTie" a ac)
  (hQ:(min i j,max i j)∈S->∀ac y dy r' rs' a P',Frm e aa ac->(∀z∈y::dy::r'::rs',aa z=none)->(a=b\/aa a=none)->KeptAt ac κ e y dy r' rs' a n (but (min i j,max i j) S) P'->Q (.int ((P'.length:Int)-P.length)) ac) :
  (sem zae zaj (k+8) true).run "Kept" "cut" [.ref κ,.int i,.int j] aa Q X:=by
 have hhi:=h.net.hi;have hlo:=h.net.lo;have hPl:=zcD (h.max.1.ok h.net.ok) h.max.1.2 (by lia) hhi
 refine zag (F:=zb3) rfl ⟨rfl,?_⟩
 delta zb3
 refine zah h.top h.dic ⟨⟨rfl,tb_need⟩,zf3 h hi hj hij ?_⟩;generalize htie:(min i j,max i j)=q at *
 delta T_Kept_cut_3
 refine zcm h ?_;refine zah h.net.top h.net.dic ⟨⟨rfl,tb_ties⟩,zaV h.net fun c hc=>?_⟩;rw [zaW hS hp.symm];have e1:=(Ext.rfl (aa:=aa)).upd (o:=.list (S.map pr)) hc;have hc1:(aa.upd c (.list (S.map pr))) c=some (.list (S.map pr)):=zab;generalize aa.upd c (.list (S.map pr))=am at *;have h1:=h.ext e1;refine zaa (a := !decide (q∈S)) (by rw [zaN,zgg hc1];rfl) ?_
 by_cases z:q∈S
 ·rw [qaf z];refine zaq ?_
  delta T_Kept_cut_2
  refine zcm h1 ?_;refine zah h1.net.top h1.net.dic ⟨⟨rfl,tb_ties⟩,zaV h1.net fun c2 hc2=>?_⟩;rw [zaW hS hp.symm];have e2:=(Ext.rfl (aa:=am)).upd (o:=.list (S.map pr)) hc2;have g2:(am.upd c2 (.list (S.map pr))) c2=some (.list (S.map pr)):=zab;generalize am.upd c2 (.list (S.map pr))=au at *;refine zbp g2 ?_;refine zbk (c:=fun p:Int×Int => !decide (p=q)) (h:=pr) (fun ac e=>e _ _ g2) (by unfold zao;lia) (fun p J ac J K hK=>?_) ?_
  ·exact zaa (a := !decide (p=q)) (by rw [zcU,zmS];rfl) (zkk (hK _ .rfl))
  intro ax t e3 J ht;have h3:=h1.ext (e2.trans e3)
  delta T_Kept_cut_1
  refine zah h3.top h3.dic ⟨⟨rfl,tb_become⟩,zfv h3 (zbp h3.lst ?_)⟩;refine zbk (c:=fun p:Int×Int => !decide (p=q)) (h:=pr) (fun ac e=>e _ _ h3.lst) (by unfold zao;lia) (fun p J ac J K hK=>?_) ?_
  ·exact zaa (a := !decide (p=q)) (by rw [zcU,zmS];rfl) (zkk (hK _ .rfl))
  intro ay l e4 hl0 hl4;have E4:=((e1.trans e2).trans e3).trans e4;have h4:=h.ext E4;have hno:S.Nodup:=hp.nodup_iff.mp h.net.nod;have hle:(but q S).length<=S.length:=List.length_filter_le ..;refine zep (H:=but q S) (R:=but q P) h4 (e4 _ _ ht) hl4 (hno.filter _) (fun p hp'=>hS.2 p (mem_but.mp hp').1) (by lia)
   ⟨fun p hp'=>mem_but.mpr ⟨hp.mem_iff.mp (h.max.1.1 p (mem_but.mp hp').1),(mem_but.mp hp').2⟩,h.max.1.2.filter _⟩ (h.srt.filter _) ?_
  intro ac y dy r' rs' a P' F hnew ha K;exact hQ z ac y dy r' rs' a P' (fun a o na q=>F a o na (E4 a o q)) (fun z m=>E4.none (hnew z m)) (.inr (ha.elim (fun g=>by rw [g];exact ((e1.trans e2).trans e3).none hl0) fun g=>E4.none g)) K
 ·rw [qai z];exact zaI ⟨by decide,fun a ha=>hX z am a e1 ha⟩
theorem zhX (h:KeptAt aa κ e x d r rs b n T P) (hv:Bad n v\/∃i:Int,v=.int i/\(0<=i/\i<n)/\(Bad n w\/w=.int i)) (hX:∀a,aa a=none->X "NoPlace" a aa) :
  (sem zae zaj (k+2) true).run "Kept" "need_tie" [.ref κ,v,w] aa Q X:=by
 refine zag (F:=zaS) rfl ⟨rfl,?_⟩
 delta zaS zau zbe
 refine zcm h (zaX h.net ?_)
 rcases hv with hv |⟨i,rfl,hi,hw⟩
 ·exact zcn hv (go_b (b:=false) (zhm (zaI ⟨by decide,hX⟩)))
 ·refine zaz hi.1 hi.2 (go_b (b:=true) (za0 (zcm h (zaX h.net ?_))))
  rcases hw with hw |rfl
  ·exact zcn hw (go_b (b:=false) (zhm (zaI ⟨by decide,hX⟩)))
  ·refine zaz hi.1 hi.2 (go_b (b:=true) (za0 ?_));exact zaa (a:=true) (congrArg some (beq_self_eq_true i)) (zaI ⟨by decide,hX⟩)
theorem zno (h:KeptAt aa κ e x d r rs b n T P) (hv:Bad n v\/∃i:Int,v=.int i/\(0<=i/\i<n)/\(Bad n w\/w=.int i)) (hX:∀a,aa a=none->X "NoPlace" a aa) :
  (sem zae zaj (k+3) true).run "Kept" "put" [.ref κ,v,w] aa Q X:=by
 refine zag (F:=zb2) rfl ⟨rfl,?_⟩
 delta zb2
 exact zah h.top h.dic ⟨⟨rfl,tb_need⟩,zhX h hv hX⟩
theorem zl0 (h:KeptAt aa κ e x d r rs b n T P) (hv:Bad n v\/∃i:Int,v=.int i/\(0<=i/\i<n)/\(Bad n w\/w=.int i)) (hX:∀a,aa a=none->X "NoPlace" a aa) :
  (sem zae zaj (k+3) true).run "Kept" "cut" [.ref κ,v,w] aa Q X:=by
 refine zag (F:=zb3) rfl ⟨rfl,?_⟩
 delta zb3
 exact zah h.top h.dic ⟨⟨rfl,tb_need⟩,zhX h hv hX⟩
theorem Bst.nil:Bst [] []:=⟨⟨fun p h=>h,List.Pairwise.nil⟩,fun P' h=>by cases P' with |nil=>exact qal _ |cons q P'=>exact absurd (h.1 q (qaj ..)) qam⟩
theorem zeO (bH:aa κ=some (.inst "Kept" e)) (he:aa e=some (.ns [])) (h1:1<=n) (h2:n<=40)
  (hQ:∀ac y dy r' rs' a,Frm e aa ac->KeptAt ac κ e y dy r' rs' a n [] []->Q .none ac) :
  (sem zae zaj (k+4) true).run "Kept" "__init__" [.ref κ,.int n] aa Q X:=by
 refine zag (F:=zbE) rfl ⟨rfl,?_⟩
 delta zbE zau zdW
 refine ⟨by decide,fun c hc=>?_⟩
 have e2:=(Ext.rfl (aa:=aa)).upd (o:=.list []) hc;have hc2:(aa.upd c (.list [])) c=some (.list []):=zab;generalize aa.upd c (.list [])=au at *;intro y dy hy hdy hyd;refine zdb (d:=dy) (H:=[]) zab (by rw [zaf hyd.symm,zab]) hyd ((zaf (zaH hc2 hy)).trans ((zaf (zaH hc2 hdy)).trans hc2)) h1 h2 List.nodup_nil (fun p h=>absurd h qam) (by decide) ?_
 intro ay r' rs' hF hd' hR hr hrs hrr;have e4:=zcB hy hdy hF;have hN:NetAt ay y dy r' rs' n []:=⟨hF y _ hyd zab,hd',hR,h1,h2,List.nodup_nil,fun p h=>absurd h qam⟩;have E4:=e2.trans e4;have k4:=E4 _ _ bH;have d4:=E4 _ _ he;clear hF hd' hR hr hrs hrr;refine ⟨rfl,zah k4 d4 ⟨⟨fldKn,show 0<100 by decide⟩,?_⟩⟩
 have F5:Frm e ay (ay.upd e (.ns [("now",.ref y)])):=fun a o na q=>(zaf na).trans q;have hN5:=hN.frm F5 d4 rfl;have ne:κ≠e:=fun q=>by rw [q,d4] at k4;cases k4
 have t5:=F5 _ _ ne k4;have d5:(ay.upd e (.ns [("now",.ref y)])) e=some (.ns [("now",.ref y)]):=zab;show wpSs (sem zae zaj (k+3)) true T_Kept_init_1 _ (ay.upd e (.ns [("now",.ref y)])) _ _ _;have F:Frm e aa (ay.upd e (.ns [("now",.ref y)])):=fun a o na q=>F5 a o na (E4 a o q);generalize ay.upd e (.ns [("now",.ref y)])=aJ at *
 delta T_Kept_init_1
 refine ⟨by decide,fun a ha=>?_⟩
 have e6:=(Ext.rfl (aa:=aJ)).upd (o:=.list []) ha;have a6:(aJ.upd a (.list [])) a=some (.list []):=zab;generalize aJ.upd a (.list [])=aH at *;refine zah (e6 _ _ t5) (e6 _ _ d5) ⟨⟨fldKb,show 1<100 by decide⟩,?_⟩
 have d6:=e6 _ _ d5;have F7:Frm e aH (aH.upd e (.ns [("now",.ref y),("best",.ref a)])):=fun a o na q=>(zaf na).trans q;have na:a≠e:=fun q=>by rw [q,d6] at a6;cases a6
 exact hQ _ y dy r' rs' a ((F.ext e6).trans F7) ⟨F7 _ _ ne (e6 _ _ t5),zab,(hN5.ext e6).frm F7 d6 rfl,F7 _ _ na a6,Bst.nil,List.Pairwise.nil⟩
end
section
variable {k:Nat} {aa ac:Store} {Q:V->Store->Prop} {X:XP} {κ e x d r b:Addr} {rs:List Addr} {n:Int} {S T P:List (Int×Int)} {v w:V} {md:Bool}
theorem zhR {c:String} {a:Addr} (hc:c = "BadNet" \/ c = "NoPlace" \/ c = "TieThere" \/ c = "NoTie") (ha:aa a=some (.exc c)) (h:Q (.bool true) aa):(sem zae zaj (k+1) md).run "" "_law_sole" [.ref a] aa Q X:=by
 have hI:∀C,zdA aa (.ref a) (.cls C)=some (zdc c C):=fun C=>by
  show (match aa a with |some (.exc c)=>if c∈excNames then some (zdc c C) else none |_=>none)=_
  rw [ha];rcases hc with rfl |rfl |rfl |rfl<;>rfl
 rcases hc with rfl |rfl |rfl |rfl
 all_goals
  refine zag (F:=ze0) rfl ⟨rfl,zaa (hI "BadNet") (zaa (hI "NoPlace") (zaa (hI "BadPairs") (zaa (hI "BadWay") (zaa (hI "TieThere") (zaa (hI "NoTie") (zaa (hI "OddRing") ?_))))))⟩;show zam (zdA aa (.ref a) (.cls "NetError")) _;refine zaa (hI "NetError") ?_;show zam (zdA aa (.ref a) (.cls "ValueError")) _;exact zaa (hI "ValueError") h
theorem zdF {c:String} {z:Str} {a:Addr} (hc:c = "BadNet" \/ c = "NoPlace" \/ c = "TieThere" \/ c = "NoTie") (hQ:Q (.str z) (aa.upd a (.exc c))) :
  (sem zae zaj (k+1) md).run "" "_law_sole" [.ref a] (aa.upd a (.exc c)) (fun u ae=>b1V false B1.int u ae fun v ah=>binV Operator.Mult (V.str z) v ah Q) X:=
 zhR hc zab ⟨⟨by decide,by decide⟩,hQ⟩
theorem zll {c:Bool} (h:KeptAt aa κ e x d r rs b n T P) (hv:Bad n v\/∃i:Int,v=.int i/\(0<=i/\i<n)/\(Bad n w\/w=.int i)) (hQ:∀ac,Ext aa ac->Q (.str (Str.ofString "no place")) ac) :
  (sem zae zaj (k+4) true).run "" "_law_told" [.ref κ,.bool c,v,w] aa Q X:=by
 refine zag (F:=zbh) rfl ⟨rfl,?_⟩
 delta zbh zau ze1
 cases c with
 |true=>
  refine zaI ?_;refine zah h.top h.dic ⟨⟨rfl,tb_kcut⟩,zl0 h hv fun a ha=>?_⟩;rw [if_pos rfl];exact zdF (.inr (.inl rfl)) (hQ _ (Ext.rfl.upd ha))
 |false=>
  refine zaq ?_
  delta T_law_told_1
  refine zah h.top h.dic ⟨⟨rfl,tb_put⟩,zno h hv fun a ha=>?_⟩;rw [if_pos rfl];exact zdF (.inr (.inl rfl)) (hQ _ (Ext.rfl.upd ha))
variable {i j:Int}
theorem zlj (h:KeptAt aa κ e x d r rs b n T P) (hS:zb0 n S) (hp:T.Perm S) (hl:S.length<=1600) (hi:0<=i/\i<n) (hj:0<=j/\j<n) (hij:i≠j)
  (hX:(min i j,max i j)∈S->∀ac,Ext aa ac->Q (.str (Str.ofString "there")) ac)
  (hQ:(min i j,max i j)∉S->∀ac y dy r' rs' a P',Frm e aa ac->(∀z∈y::dy::r'::rs',aa z=none)->(a=b\/aa a=none)->KeptAt ac κ e y dy r' rs' a n (S++[(min i j,max i j)]) P'->Q (.int ((P'.length:Int)-P.length)) ac) :
  (sem zae zaj (k+9) true).run "" "_law_told" [.ref κ,.bool false,.int i,.int j] aa Q X:=by
 refine zag (F:=zbh) rfl ⟨rfl,?_⟩
 delta zbh zau ze1
 refine zaq ?_
 delta T_law_told_1
 refine zah h.top h.dic ⟨⟨rfl,tb_put⟩,zlI h hS hp hl hi hj hij (fun m ac a e ha=>?_) hQ⟩;rw [if_neg (by decide),if_pos rfl];exact zdF (.inr (.inr (.inl rfl))) (hX m _ (e.trans (Ext.rfl.upd ha)))
theorem zlk (h:KeptAt aa κ e x d r rs b n T P) (hS:zb0 n S) (hp:T.Perm S) (hl:S.length<=1600) (hi:0<=i/\i<n) (hj:0<=j/\j<n) (hij:i≠j)
  (hX:(min i j,max i j)∉S->∀ac,Ext aa ac->Q (.str (Str.ofString "no tie")) ac)
  (hQ:(min i j,max i j)∈S->∀ac y dy r' rs' a P',Frm e aa ac->(∀z∈y::dy::r'::rs',aa z=none)->(a=b\/aa a=none)->KeptAt ac κ e y dy r' rs' a n (but (min i j,max i j) S) P'->Q (.int ((P'.length:Int)-P.length)) ac) :
  (sem zae zaj (k+9) true).run "" "_law_told" [.ref κ,.bool true,.int i,.int j] aa Q X:=by
 refine zag (F:=zbh) rfl ⟨rfl,?_⟩
 delta zbh zau ze1
 refine zaI ?_;refine zah h.top h.dic ⟨⟨rfl,tb_kcut⟩,zkj h hS hp hl hi hj hij (fun m ac a e ha=>?_) hQ⟩;rw [if_neg (by decide),if_neg (by decide),if_pos rfl];exact zdF (.inr (.inr (.inr rfl))) (hX m _ (e.trans (Ext.rfl.upd ha)))
theorem zjw (h:Bad n v) (g:∀i,v≠.int i) (q:Q (.bool false) aa):(sem zae zaj (k+1) true).run "" "_law_whole" [v] aa Q X:=by
 refine zag (F:=zcY) rfl ⟨rfl,?_⟩;cases v with
 |int i=>exact absurd rfl (g i)
 |tup _=>exact h.elim
 |ref _=>exact h.elim
 |_=>exact q
theorem zig {ad:Loc} {K:Loc->Store->Prop} {Y:XL} {t1 t2 t3 t4 t6:Option V} (h:Bad n v) (hQ:Q (.str (Str.ofString "no place")) aa) :
  wpSs (sem zae zaj (k+1)) true L_law_due_1 [some (.int n),t1,t2,t3,t4,some v,t6] aa K Q Y:=by
 delta L_law_due_1 zau zc3
 cases v with
 |int i=>
  refine zbx (go_b (b:=true) (za0 ?_))
  by_cases z:0<=i
  ·refine zaa (a:=true) (congrArg some (qaf z)) ?_;have g:¬i<n:=by have:i<0\/n<=i:=h;lia
   rw [if_pos rfl];exact zaa (a:=false) (congrArg some (qai g)) (go_b (b:=false) (zaI hQ))
  ·refine zaa (a:=false) (congrArg some (qai z)) ?_;rw [if_neg qan];exact go_b (b:=false) (zaI hQ)
 |tup _=>exact h.elim
 |ref _=>exact h.elim
 |_=>exact zjw (n:=n) trivial (fun i e=>by cases e) (go_b (b:=false) (zhm (zaI hQ)))
theorem zdM {ad:Loc} {K:Loc->Store->Prop} {Y:XL} {t1 t2 t3 t4 t6:Option V} (h:0<=i/\i<n) (hK:K [some (.int n),t1,t2,t3,t4,some (.int i),t6] aa) :
  wpSs (sem zae zaj (k+1)) true L_law_due_1 [some (.int n),t1,t2,t3,t4,some (.int i),t6] aa K Q Y:=by
 delta L_law_due_1 zau zc3
 refine zbx (go_b (b:=true) (za0 (zaa (a:=true) (congrArg some (qaf h.1)) ?_)));rw [if_pos rfl];exact zaa (a:=true) (congrArg some (qaf h.2)) (go_b (b:=true) (zaq hK))
theorem zk1 {af:Calls} {es:Exs} {ad:Loc} {K:List V->(Store->Prop)->Store->Prop}:wpIt af md (.tuple es) ad aa K X=wpE af md (.tuple es) ad aa (fun u ae=>zb6 u ae fun items chk=>K items chk ae) X:=rfl
theorem zn9 {c:Bool} {t:Addr} (hv:Bad n v\/∃i:Int,v=.int i/\(0<=i/\i<n)/\(Bad n w\/w=.int i)) (hQ:Q (.str (Str.ofString "no place")) aa) :
  (sem zae zaj (k+2) true).run "" "_law_due" [.int n,.ref t,.bool c,v,w] aa Q X:=by
 refine zag (F:=zcv) rfl ⟨rfl,?_⟩
 delta zcv zk1
 refine And.intro sz2 (And.intro trivial ?_)
 rcases hv with hv |⟨i,rfl,hi,hw⟩
 ·exact zig (ad:=[]) hv hQ
 ·refine zdM (ad:=[]) hi (And.intro trivial ?_)
  rcases hw with hw |rfl
  ·exact zig (ad:=[]) hw hQ
  ·refine zdM (ad:=[]) hi (And.intro trivial ?_)
   delta T_law_due_4
   exact zaa (a:=true) (congrArg some (beq_self_eq_true i)) (zaI hQ)
theorem zih {c:Bool} {t:Addr} {U:List (Int×Int)} (ht:aa t=some (.list (U.map pr))) (hi:0<=i/\i<n) (hj:0<=j/\j<n) (hij:i≠j)
  (hQ:Q (.str (if c=true then (if (min i j,max i j)∈U then Str.empty else Str.ofString "no tie") else if (min i j,max i j)∈U then Str.ofString "there" else Str.empty)) aa) :
  (sem zae zaj (k+2) true).run "" "_law_due" [.int n,.ref t,.bool c,.int i,.int j] aa Q X:=by
 refine zag (F:=zcv) rfl ⟨rfl,?_⟩
 delta zcv zk1
 refine And.intro sz2 (And.intro trivial (zdM (ad:=[]) hi (And.intro trivial (zdM (ad:=[]) hj (And.intro trivial ?_)))))
 delta T_law_due_4
 refine zaa (a:=false) (congrArg some (beq_eq_false_iff_ne.mpr hij)) (zaq ?_)
 delta T_law_due_3
 refine ⟨sz2,?_⟩
 delta T_law_due_2
 cases c with
 |true=>
  refine zaI ?_;refine zaa (a := !decide ((min i j,max i j)∈U)) (by rw [zaN];exact congrArg (Option.map (!·)) (zgg (q:=(min i j,max i j)) ht)) ?_
  rw [if_pos rfl] at hQ
  by_cases m:(min i j,max i j)∈U
  ·rw [qaf m];rw [if_pos m] at hQ;exact ⟨⟨by decide,by decide⟩,hQ⟩
  ·rw [qai m];rw [if_neg m] at hQ;exact ⟨⟨by decide,by decide⟩,hQ⟩
 |false=>
  refine zaq ?_
  delta T_law_due_1
  refine zaa (a:=decide ((min i j,max i j)∈U)) (zgg (q:=(min i j,max i j)) ht) ?_;rw [if_neg qan] at hQ
  by_cases m:(min i j,max i j)∈U
  ·rw [qaf m];rw [if_pos m] at hQ;exact ⟨⟨by decide,by decide⟩,hQ⟩
  ·rw [qai m];rw [if_neg m] at hQ;exact ⟨⟨by decide,by decide⟩,hQ⟩
def zhx (n:Int) (v w:V):Prop:=Bad n v\/∃i:Int,v=.int i/\(0<=i/\i<n)/\(Bad n w\/w=.int i)
def Two (n:Int) (v w:V):Prop:=∃i j:Int,v=.int i/\w=.int j/\(0<=i/\i<n)/\(0<=j/\j<n)/\i≠j
theorem two_of (hi:0<=i/\i<n) (hj:0<=j/\j<n):Two n (.int i) (.int j)\/zhx n (.int i) (.int j):=by
 by_cases z:i=j
 ·exact .inr (.inr ⟨i,rfl,hi,.inr (by rw [z])⟩)
 ·exact .inl ⟨i,j,rfl,rfl,hi,hj,z⟩
theorem zg0 {c m:Int} (h1:1<=n) (h2:n<=40) (hQ:∀ac v w,Ext aa ac->Two n v w\/zhx n v w->Q (.tup [v,w]) ac) :
  (sem zae zaj (k+1) true).run "" "_law_places" [.int c,.int m,.int n] aa Q X:=by
 refine zag (F:=zct) rfl ⟨rfl,?_⟩
 delta zct
 refine ⟨by lia,?_⟩
 have b1:=zfk (a:=m) (b:=n) (by lia)
 generalize m.fmod n=i at *
 delta T_law_places_4
 refine ⟨by lia,by lia,?_⟩
 have b2:=zfk (a:=m.fdiv n) (b:=n) (by lia)
 generalize (m.fdiv n).fmod n=j at *
 delta T_law_places_3
 refine ⟨by decide,zaa (a:=c.fmod 9==4) rfl ?_⟩
 by_cases z:c.fmod 9=4
 ·rw [beq_iff_eq.mpr z];refine zaI ⟨⟨rfl,rfl⟩,by decide,fun a ha=>?_⟩
  have e1:=(Ext.rfl (aa:=aa)).upd (o:=.list [.int (-1),.int n,.bool true,.str (Str.ofString "0"),.none,.int 1000000000,.int i]) ha;have ha1:(aa.upd a (.list [.int (-1),.int n,.bool true,.str (Str.ofString "0"),.none,.int 1000000000,.int i])) a=some (.list [.int (-1),.int n,.bool true,.str (Str.ofString "0"),.none,.int 1000000000,.int i]):=zab;generalize aa.upd a (.list [.int (-1),.int n,.bool true,.str (Str.ofString "0"),.none,.int 1000000000,.int i])=am at *;have hbad:∀v∈[V.int (-1),.int n,.bool true,.str (Str.ofString "0"),.none,.int 1000000000,.int i],Bad n v\/v=.int i:=fun v hv=>by
   simp only [qad,qam,or_false] at hv
   rcases hv with rfl |rfl |rfl |rfl |rfl |rfl |rfl
   ·exact .inl (.inl (by decide))
   ·exact .inl (.inr (Int.le_refl _))
   ·exact .inl trivial
   ·exact .inl trivial
   ·exact .inl trivial
   ·exact .inl (.inr (by lia))
   ·exact .inr rfl
  have hal:[V.int (-1),.int n,.bool true,.str (Str.ofString "0"),.none,.int 1000000000,.int i].length=7:=rfl;generalize [V.int (-1),.int n,.bool true,.str (Str.ofString "0"),.none,.int 1000000000,.int i]=L at *;refine ⟨by lia,by decide,?_⟩
  have b3:=zfk (a:=m.fdiv n) (b:=7) (by decide)
  generalize (m.fdiv n).fmod 7=q at *;have hm:q.toNat<L.length:=by lia
  refine zaG ha1 b3.1 (qas hm) ?_;have hv:=hbad _ (List.getElem_mem hm);generalize L[q.toNat]=v at *
  delta T_law_places_1
  refine ⟨by decide,by decide,zaa (a:=(c.fdiv 9).fmod 2==1) rfl ?_⟩
  by_cases y:(c.fdiv 9).fmod 2=1
  ·rw [beq_iff_eq.mpr y];refine zaI ⟨sz2,hQ _ _ _ e1 (.inr ?_)⟩
   rcases hv with hv |rfl
   ·exact .inl hv
   ·exact .inr ⟨i,rfl,b1,.inr rfl⟩
  ·rw [beq_eq_false_iff_ne.mpr y];refine zaq ?_
   delta T_law_places_2
   refine ⟨sz2,hQ _ _ _ e1 (.inr (.inr ⟨i,rfl,b1,?_⟩))⟩
   rcases hv with hv |rfl
   ·exact .inl hv
   ·exact .inr rfl
 ·rw [beq_eq_false_iff_ne.mpr z];refine zaq ?_
  delta T_law_places_2
  exact ⟨sz2,hQ _ _ _ .rfl (two_of b1 b2)⟩
theorem zl6 {w:Addr} (hv:Bad 41 v\/v=.int 0) (hX:∀a,aa a=none->X "BadNet" a aa):(sem zae zaj (k+2) true).run "Net" "__init__" [.ref x,v,.ref w] aa Q X:=by
 refine zag (F:=zb1) rfl ⟨rfl,?_⟩
 delta zb1 zau zbe
 simp only [zgi,zb7]
 rcases hv with hv |rfl
 ·exact zcn hv (go_b (b:=false) (zhm (zaI ⟨by decide,hX⟩)))
 ·refine zaz (by decide) (by decide) (go_b (b:=true) (za0 ?_))
  exact zaa (a:=true) rfl (zhm (zaI ⟨by decide,hX⟩))
theorem zkg (hv:Bad 41 v\/v=.int 0) (hX:∀ac a,Ext aa ac->ac a=none->X "BadNet" a ac):(sem zae zaj (k+3) true).run "Kept" "__init__" [.ref κ,v] aa Q X:=by
 refine zag (F:=zbE) rfl ⟨rfl,?_⟩
 delta zbE zau zdW
 refine ⟨by decide,fun c hc=>?_⟩
 intro y dy hy hdy hyd;exact zl6 hv fun a ha=>hX _ a (((Ext.rfl.upd hc).trans (Ext.rfl.upd hdy)).trans (Ext.rfl.upd (by rw [zaf hyd];exact hy))) ha
theorem zfZ (hv:Bad 41 v\/v=.int 0) (hQ:∀ac,Ext aa ac->Q (.bool true) ac):(sem zae zaj (k+4) true).run "" "_law_no_size" [v] aa Q X:=by
 refine zag (F:=zca) rfl ⟨rfl,?_⟩
 delta zca zau ze1 zhM
 intro y dy hy hdy hyd;refine zkg hv fun ac a e ha=>?_;rw [if_pos rfl];exact zhR (.inl rfl) zab (hQ _ ((((Ext.rfl.upd hdy).trans (Ext.rfl.upd (by rw [zaf hyd];exact hy))).trans e).trans (Ext.rfl.upd ha)))
end
section
variable {k:Nat} {aa ac:Store} {Q:V->Store->Prop} {X:XP} {κ e x d r b u:Addr} {rs:List Addr} {n:Int} {S T P U:List (Int×Int)} {v w:V} {md:Bool}
theorem Bst.mem (h:Bst T P) (hp:T.Perm S):Bst S P:=⟨⟨fun p m=>hp.mem_iff.mp (h.1.1 p m),h.1.2⟩,fun P' h'=>h.2 P' ⟨fun p m=>hp.mem_iff.mpr (h'.1 p m),h'.2⟩⟩
theorem zos (h:U.Perm S):Nb U=Nb S:=funext fun i=>funext fun j=>propext (zj4 h).mem_iff
theorem zhY {i:Int}:∀{U:List (Int×Int)},(∀p∈U,zap n p)->(U.filter fun p=>i==p.1||i==p.2).map (fun p=>p.1+p.2-i)=nb U i
 | [],_=>rfl
 |p::U,h=>by
  have ih:=zhY (i:=i) (U:=U) fun q hq=>h q (qag _ hq);have t:=h p (qaj ..);unfold zap at t;rw [show nb (p::U) i=nb1 i p++nb U i from rfl,List.filter_cons]
  by_cases a:i=p.1
  ·have b:¬p.2=i:=by lia
   rw [if_pos (by rw [beq_iff_eq.mpr a];rfl),List.map_cons,ih,nb1,if_pos a.symm,if_neg b,List.append_nil,show p.1+p.2-i=p.2 by lia];rfl
  ·by_cases c:i=p.2
   ·rw [if_pos (by rw [beq_iff_eq.mpr c,Bool.or_true]),List.map_cons,ih,nb1,if_neg (fun z=>a z.symm),if_pos c.symm,List.nil_append,show p.1+p.2-i=p.1 by lia];rfl
   ·rw [if_neg (by rw [beq_eq_false_iff_ne.mpr a,beq_eq_false_iff_ne.mpr c];exact qan),ih,nb1,if_neg (fun z=>a z.symm),if_neg (fun z=>c z.symm)];rfl
theorem zhQ {l:Addr} (hl:aa l=some (.list (U.map pr))) (hn:U.Nodup) (hlen:U.length<64) (hS:S.Pairwise zaK) (hp:U.Perm S) (hQ:∀a,aa a=none->Q (.ref a) (aa.upd a (.list (S.map pr)))):b1V md .sorted (.ref l) aa Q:=by
 simp only [zgA];refine .inr (zak hl ⟨U,⟨rfl,hn,hlen⟩,fun qs hq hs=>?_⟩);rw [show qs=S from List.Perm.eq_of_pairwise (fun a b J J x y=>by unfold zaK at x y;lia) hs hS (hq.trans hp)]
 exact hQ
theorem zcL (h:KeptAt aa κ e x d r rs b n T P) (hS:zb0 n S) (hp:T.Perm S) (hu:aa u=some (.list (U.map pr))) (hU:U.Perm S) (hlen:U.length<64) (hQ:∀ac,Ext aa ac->Q (.int P.length) ac) :
  (sem zae zaj (k+10) true).run "" "_law_stands" [.ref κ,.int n,.ref u] aa Q X:=by
 have hlo:=h.net.lo;have hhi:=h.net.hi;have hSl:S.length<64:=by rw [←hU.length_eq];exact hlen
 have hSn:S.Nodup:=hp.nodup_iff.mp h.net.nod;have hUn:U.Nodup:=hU.nodup_iff.mpr hSn;have hUo:∀p∈U,zap n p:=fun p m=>hS.2 p (hU.mem_iff.mp m);refine zag (F:=zcs) rfl ⟨rfl,?_⟩
 delta zcs
 refine zah h.top h.dic ⟨⟨rfl,tb_knet⟩,zd9 h hS hp (by lia) fun am y dy r1 rs1 e1 hy0 hN=>?_⟩
 have h1:=h.ext e1
 delta T_law_stands_10
 refine zah h1.top h1.dic ⟨⟨rfl,tb_pairs⟩,zeG h1 fun a ha=>?_⟩;have e2:=(Ext.rfl (aa:=am)).upd (o:=.list (P.map pr)) ha;have ha2:(am.upd a (.list (P.map pr))) a=some (.list (P.map pr)):=zab;generalize am.upd a (.list (P.map pr))=au at *;have hN2:=hN.ext e2;have E2:=e1.trans e2;have hu2:=E2 _ _ hu;have ha0:aa a=none:=e1.none ha
 delta T_law_stands_9
 refine zaX hN2 (zaa (a:=false) (by show some (!(n==n))=_;rw [beq_self_eq_true];rfl) (za0 ?_))
 refine zah hN2.top hN2.dic ⟨⟨rfl,tb_ties⟩,zaV hN2 fun c hc=>?_⟩;rw [zaW hS (List.Perm.refl _)];have e3:=(Ext.rfl (aa:=au)).upd (o:=.list (S.map pr)) hc;have hc3:(au.upd c (.list (S.map pr))) c=some (.list (S.map pr)):=zab;generalize au.upd c (.list (S.map pr))=ax at *;refine zhQ (e3 _ _ hu2) hUn hlen hS.1 hU fun c4 hc4=>?_;have e4:=(Ext.rfl (aa:=ax)).upd (o:=.list (S.map pr)) hc4;have hd4:(ax.upd c4 (.list (S.map pr))) c4=some (.list (S.map pr)):=zab;generalize ax.upd c4 (.list (S.map pr))=ay at *;refine zaa (a:=false) (by rw [zcU,zfl (e4 _ _ hc3) hd4];rfl) (zaq ?_)
 have hu4:=e4 _ _ (e3 _ _ hu2);have hN4:=hN2.ext (e3.trans e4)
 delta T_law_stands_8
 rw [zcQ hu4,qac];refine ⟨⟨by lia,by decide⟩,by lia,?_⟩
 have b1:=zfk (a:=(U.length:Int)*7) (b:=n) (by lia)
 generalize ((U.length:Int)*7).fmod n=i at *;refine ob14 (Int.eq_ofNat_of_zero_le b1.1) ?_;intro i ee283;subst ee283
 delta T_law_stands_7
 refine zah hN4.top hN4.dic ⟨⟨rfl,tb_beside⟩,zb8 hN4 b1.2 fun c5 hc5=>?_⟩;have e5:=(Ext.rfl (aa:=ay)).upd (o:=.list ((zaw (nb S i)).map V.int)) hc5;have g5:(ay.upd c5 (.list ((zaw (nb S i)).map V.int))) c5=some (.list ((zaw (nb S i)).map V.int)):=zab;generalize ay.upd c5 (.list ((zaw (nb S i)).map V.int))=aJ at *;have hu5:=e5 _ _ hu4;refine zbp hu5 (zbk (c:=fun p:Int×Int=>(i:Int)==p.1||(i:Int)==p.2) (h:=fun p:Int×Int=>V.int (p.1+p.2-i)) (fun ac e=>e _ _ hu5) (by unfold zao;lia) (fun p hp ac e C hC=>?_) fun aH w e6 J hw=>?_)
 ·refine zaa (a:=(i:Int)==p.1||(i:Int)==p.2) (zpa (aa:=ac)) (go_b ?_);have hC:=hC _ .rfl;cases z:((i:Int)==p.1||(i:Int)==p.2) with
  |false=>rw [z] at hC;exact hC
  |true=>rw [z] at hC;exact zbP (zbO hC)
 have hw':aH w=some (.list ((nb U i).map V.int)):=by rw [hw,←zhY hUo,List.map_map];rfl
 refine zdZ hw' (by have:=zeJ (i:=i) hUn hUo (by lia) hhi;lia) fun c7 hc7=>?_
 rw [zlu (zj4 hU)];have e7:=(Ext.rfl (aa:=aH)).upd (o:=.list ((zaw (nb S i)).map V.int)) hc7;have g7:(aH.upd c7 (.list ((zaw (nb S i)).map V.int))) c7=some (.list ((zaw (nb S i)).map V.int)):=zab;generalize aH.upd c7 (.list ((zaw (nb S i)).map V.int))=be at *;refine zaa (a:=false) (by rw [zcU,zfm (e7 _ _ (e6 _ _ g5)) g7];rfl) (zaq ?_)
 have hu7:=e7 _ _ (e6 _ _ hu5);have E7:Ext au be:=e3.trans (e4.trans (e5.trans (e6.trans e7)));have ha7:=E7 _ _ ha2;have hBU:Bst U P:=h.max.mem (hp.trans hU.symm)
 delta T_law_stands_6 zau zlp
 refine zjq hu7 ha7 hUo ⟨hlo,hhi⟩ hBU.1 h.srt fun σ8 c8 e8 J hc8=>?_
 delta T_law_stands_5 zau zlo zjG
 refine zaa (a:=false) rfl (za0 ?_);have hN8:=hN2.ext (E7.trans e8);refine zje hN8 hS.1 (by lia) fun σ9 f e9 J hf=>?_
 rw [zcQ (e9 _ _ hc8),qac];have hl:=znC hUo hBU.1;refine zhq (e9 _ _ (e8 _ _ hu7)) hf ⟨hUn,hUo⟩ ⟨hlo,hhi⟩ fen_sorted (fun i hi=>(mem_fen.mp hi).1) (fun Ps g=>by rw [zos hU] at g;have:=zjf hS.2 (hBU.mem hU) g;lia) fun bG e10=>?_
 refine go_b (b:=true) (zaq ?_)
 delta T_law_stands_4
 have E10:=e8.trans (e9.trans e10);have ha10:=E10 _ _ ha7;rw [zcQ ha10,qac];have hN10:=hN8.ext (e9.trans e10);have EE:Ext aa bG:=E2.trans (E7.trans E10);have hPl:=zcD (h.max.1.ok h.net.ok) h.max.1.2 (by lia) hhi
 delta T_law_stands_3
 refine zak ha10 ⟨sz2,zaJ ha10 (by rw [qac];unfold zao;lia) ?_⟩
 have e11:Ext am (bG.upd a (.list (P.map pr++[.tup [.int 0,.int 0]]))):=(e2.trans (E7.trans E10)).upd ha;generalize bG.upd a (.list (P.map pr++[.tup [.int 0,.int 0]]))=bB at *;have hN11:=hN.ext e11
 delta T_law_stands_2
 refine zah hN11.top hN11.dic ⟨⟨rfl,tb_ties⟩,zaV hN11 fun z hz=>?_⟩;rw [zaW hS (List.Perm.refl _)];have hz12:(bB.upd z (.list (S.map pr))) z=some (.list (S.map pr)):=zab;have e12:=(Ext.rfl (aa:=bB)).upd (o:=.list (S.map pr)) hz;generalize bB.upd z (.list (S.map pr))=σ12 at *;refine zak hz12 ⟨sz2,zaJ hz12 (by rw [qac];unfold zao;lia) ?_⟩
 delta T_law_stands_1
 exact hQ _ (((e1.trans e11).trans e12).upd ((e1.trans e11).none hz))
theorem zhu {q:Int×Int}:∀{P:List (Int×Int)},P.Nodup->P.length<=(but q P).length+1
 | [],_=>Nat.zero_le _
 |p::P,h=>by
  refine ob16 (qar.mp h) ?_;intro hn hP
  by_cases z:p=q
  ·have:but q (p::P)=P:=by
    unfold but;rw [List.filter_cons,if_neg (by rw [qaf z];exact qan)]
    exact List.filter_eq_self.mpr fun a ha=>by rw [qai (fun e:a=q=>hn ((z.trans e.symm)▸ha))];rfl
   rw [this,List.length_cons];exact qal _
  ·have:but q (p::P)=p::but q P:=by
    unfold but;rw [List.filter_cons,if_pos (by rw [qai z];rfl)]
   rw [this,List.length_cons,List.length_cons];exact Nat.succ_le_succ (zhu hP)
theorem zlO {q:Int×Int} {P':List (Int×Int)} (h:Bst S P) (h':Bst (S++[q]) P'):P.length<=P'.length/\P'.length<=P.length+1:=by
 refine ⟨h'.2 P ⟨fun p m=>qaw _ (h.1.1 p m),h.1.2⟩,?_⟩;have g:Pg S (but q P'):=⟨fun p m=>by
  refine ob16 (mem_but.mp m) ?_;intro m1 m2;exact (qao.mp (h'.1.1 p m1)).elim id fun z=>absurd (qah.mp z) m2,h'.1.2.filter _⟩
 have:=h.2 _ g;have:=zhu (q:=q) (zcC h'.1.2)
 lia
theorem zlX {q:Int×Int} {P':List (Int×Int)} (h:Bst S P) (h':Bst (but q S) P'):P'.length<=P.length/\P.length<=P'.length+1:=by
 refine ⟨h.2 P' ⟨fun p m=>(mem_but.mp (h'.1.1 p m)).1,h'.1.2⟩,?_⟩;have g:Pg (but q S) (but q P):=⟨fun p m=>by
  refine ob16 (mem_but.mp m) ?_;intro m1 m2;exact mem_but.mpr ⟨h.1.1 p m1,m2⟩,h.1.2.filter _⟩
 have:=h'.2 _ g;have:=zhu (q:=q) (zcC h.1.2)
 lia
theorem zjM (hn:U.Nodup) (ok:∀p∈U,zap n p):∃S,zb0 n S/\U.Perm S:=
 have hp:=zdU hn ok
 ⟨zbs U n.toNat,⟨zb4 hn ok,fun p m=>ok p (hp.mem_iff.mp m)⟩,hp.symm⟩
end
section
variable {k:Nat} {aa ac:Store} {Q:V->Store->Prop} {X:XP} {κ e x d r b u s:Addr} {rs:List Addr} {n:Int} {S T P U:List (Int×Int)} {v w:V} {md c:Bool}
structure StAt (aa:Store) (s u:Addr) (n:Int) (U:List (Int×Int)) (m:Nat):Prop where
 top:aa s=some (.list [.int n,.ref u,.int m])
 ties:aa u=some (.list (U.map pr))
variable {m:Nat}
theorem StAt.ext (h:StAt aa s u n U m) (g:Ext aa ac):StAt ac s u n U m:=⟨g _ _ h.top,g _ _ h.ties⟩
theorem zjH:(zae "" "_law_due").isSome=true:=rfl
theorem ze2:(zae "" "_law_told").isSome=true:=rfl
theorem zdV:(zae "" "_law_stands").isSome=true:=rfl
theorem znc:(zae "" "_law_goes").isSome=true:=rfl
variable {K:V->Prop}
theorem st0 (h:StAt aa s u n U m) (g:K (.int n)):idxV (.ref s) (.int 0) aa K:=zaG h.top (by decide) rfl g
theorem st1 (h:StAt aa s u n U m) (g:K (.ref u)):idxV (.ref s) (.int 1) aa K:=zaG h.top (by decide) rfl g
theorem st2 (h:StAt aa s u n U m) (g:K (.int m)):idxV (.ref s) (.int 2) aa K:=zaG h.top (by decide) rfl g
theorem zec {z:Str} {N:Loc->Store->Prop} {Y:XL} (h:KeptAt aa κ e x d r rs b n T P) (hS:zb0 n S) (hp:T.Perm S) (hs:StAt aa s u n U P.length) (hU:U.Perm S) (hlen:U.length<64) (hz:(z==Str.ofString "")=false) (hQ:∀ac,Ext aa ac->Q (.bool true) ac) :
  wpSs (sem zae zaj (k+10)) true T_law_goes_7 [some (.ref κ),some (.ref s),some (.bool c),some v,some w,some (.str z),some (.str z),none,none] aa N Q Y:=by
 delta T_law_goes_7 zau zdV
 refine zaa (a:=true) (by show some (!(z==Str.ofString ""))=_;rw [hz];rfl) (zaI ?_)
 refine zaa (a:=true) (by show some (z==z)=_;rw [beq_self_eq_true]) (zaI ?_)
 refine st0 hs (st1 hs (zcL h hS hp hs.ties hU hlen fun ac e'=>?_));refine st2 (hs.ext e') (zaa (a:=true) (by show some ((P.length:Int)==P.length)=_;rw [beq_self_eq_true]) ?_)
 exact hQ _ e'
theorem zh7 {t7:Option V} {N:Loc->Store->Prop} {Y:XL} (h:KeptAt aa κ e x d r rs b n T P) (hS:zb0 n S) (hp:T.Perm S) (hs:StAt aa s u n U m) (hU:U.Perm S) (hlen:U.length<64) (h1:P.length<=m+1) (h2:m<=P.length+1)
  (hQ:∀ac,Ext aa ac->Q (.bool true) (ac.upd s (.list [.int n,.ref u,.int P.length]))) :
  wpSs (sem zae zaj (k+10)) true T_law_goes_4 [some (.ref κ),some (.ref s),some (.bool c),some v,some w,some (.str Str.empty),some (.int ((P.length:Int)-m)),t7,none] aa N Q Y:=by
 delta T_law_goes_4 zau zdV
 refine st0 hs (st1 hs (zcL h hS hp hs.ties hU hlen fun ac e'=>?_));have hs':=hs.ext e'
 delta T_law_goes_3 zau zc3
 refine zaa (a:=false) rfl (za0 (zbx (go_b (b:=true) (za0 (st2 hs' ?_)))));rw [zdO];refine zaa (a:=false) (by show some (!(((P.length:Int)-m)==((P.length:Int)-m)))=_;rw [beq_self_eq_true];rfl) (za0 ?_)
 refine zaa (a:=true) (congrArg some (qaf (by lia:(-1:Int)<=(P.length:Int)-m))) ?_
 rw [if_pos rfl];refine zaa (a:=true) (congrArg some (qaf (by lia:(P.length:Int)-m<=1))) (go_b (b:=true) (zaq ?_))
 delta T_law_goes_2
 show (match ac s with |some (.list vs)=>zbt (.int 2) fun j=>(0<=j/\j<vs.length)/\_ |some (.dict ks)=>_ |_=>False)
 rw [hs'.top];refine ⟨⟨by decide,show (2:Int)<3 by decide⟩,?_⟩
 delta T_law_goes_1
 exact hQ ac e'
theorem zl9 (h:KeptAt aa κ e x d r rs b n T P) (hS:zb0 n S) (hp:T.Perm S) (hs:StAt aa s u n U P.length) (hU:U.Perm S) (hlen:U.length<64) (hv:zhx n v w) (hQ:∀ac,Ext aa ac->Q (.bool true) ac) :
  (sem zae zaj (k+11) true).run "" "_law_goes" [.ref κ,.ref s,.bool c,v,w] aa Q X:=by
 refine zag (F:=zbi) rfl ⟨rfl,?_⟩
 delta zbi zau zjH
 refine st0 hs (st1 hs (zn9 hv ?_))
 delta T_law_goes_8 zau ze2
 refine zll h hv fun ac e'=>?_;exact zec (h.ext e') hS hp (hs.ext e') hU hlen (by decide) fun aD e''=>hQ _ (e'.trans e'')
theorem al0 {α:Type} {P:α->Prop}:∀z∈([]:List α),P z:=fun J m=>absurd m qam
theorem al {α:Type} {P:α->Prop} {a:α} {L:List α} (h:P a) (g:∀z∈L,P z):∀z∈a::L,P z:=List.forall_mem_cons.mpr ⟨h,g⟩
variable {L:List Addr}
theorem no {a:Addr} (h:∀z∈L,a≠z):a∉L:=fun m=>h a m rfl
theorem hd {a:Addr}:a∈a::L:=qaj
theorem tl {a b:Addr} (h:a∈L):a∈b::L:=qag _ h
theorem NetAt.keep {D:List Addr} (h:NetAt aa x d r rs n T) (F:∀a o,a∉D->aa a=some o->ac a=some o) (o:∀z∈D,z∉x::d::r::rs):NetAt ac x d r rs n T:=
 have g:∀z o,z∈x::d::r::rs->aa z=some o->ac z=some o:=fun z p m=>F z p fun q=>o z q m
 ⟨g _ _ hd h.top,g _ _ (tl hd) h.dic,⟨g _ _ (tl (tl hd)) h.rows.top,h.rows.len,h.rows.nod,fun i a ha=>g _ _ (tl (tl (tl (qav ha)))) (h.rows.row i a ha)⟩,h.lo,h.hi,h.nod,h.ok⟩
theorem KeptAt.keep {D:List Addr} (h:KeptAt aa κ e x d r rs b n T P) (F:∀a o,a∉D->aa a=some o->ac a=some o) (o:∀z∈D,z∉κ::e::x::d::r::b::rs):KeptAt ac κ e x d r rs b n T P:=
 have g:∀z o,z∈κ::e::x::d::r::b::rs->aa z=some o->ac z=some o:=fun z p m=>F z p fun q=>o z q m
 ⟨g _ _ hd h.top,g _ _ (tl hd) h.dic,h.net.keep F fun z m q=>o z m (al (P:=fun z=>z∈κ::e::x::d::r::b::rs) (tl (tl hd)) (al (tl (tl (tl hd))) (al (tl (tl (tl (tl hd)))) fun z m=>tl (tl (tl (tl (tl (tl m))))))) z q),g _ _ (tl (tl (tl (tl (tl hd))))) h.lst,h.max,h.srt⟩
theorem KeptAt.upd {z:Addr} {o:AO} (h:KeptAt aa κ e x d r rs b n T P) (hz:z∉κ::e::x::d::r::b::rs):KeptAt (aa.upd z o) κ e x d r rs b n T P:=
 h.keep (D:=[z]) (fun a o m q=>(zaf fun (p:a=z)=>m (p▸hd)).trans q) (al hz al0)
theorem zdi {z y dy r' a:Addr} {rs':List Addr} {o:AO} (hz:aa z=some o) (ho:z∉κ::e::x::d::r::b::rs) (hnew:∀z∈y::dy::r'::rs',aa z=none) (ha:a=b\/aa a=none):z∉κ::e::y::dy::r'::a::rs':=
 have g:∀q,aa q=none->z≠q:=fun q hq=>zaH hz hq
 no (al (fun p=>ho (p▸hd)) (al (fun p=>ho (p▸tl hd)) (al (g _ (hnew y hd)) (al (g _ (hnew dy (tl hd))) (al (g _ (hnew r' (tl (tl hd)))) (al (ha.elim (fun q p=>ho (p▸q▸tl (tl (tl (tl (tl hd)))))) (g a)) fun q m=>g q (hnew q (tl (tl (tl m))))))))))
def Deed (aa ac:Store) (κ e s u:Addr) (n:Int) (U:List (Int×Int)) (A:List Addr):Prop:=
 (∀a o,a≠e->a≠s->a≠u->aa a=some o->ac a=some o) /\
 ∃x d r rs b S T P U',KeptAt ac κ e x d r rs b n T P/\zb0 n S/\T.Perm S/\StAt ac s u n U' P.length/\U'.Perm S/\U'.length<=U.length+1/\∀z o,aa z=some o->z∉A->z∉κ::e::x::d::r::b::rs
theorem StAt.ne (h:StAt aa s u n U m):s≠u:=fun q=>by
 have:=h.top;rw [q,h.ties] at this;cases U with
 |nil=>cases this
 |cons p U=>cases this
theorem zl7 {i j:Int} (h:KeptAt aa κ e x d r rs b n T P) (hS:zb0 n S) (hp:T.Perm S) (hs:StAt aa s u n U P.length) (hU:U.Perm S) (hlen:U.length<63) (os:s∉κ::e::x::d::r::b::rs) (ou:u∉κ::e::x::d::r::b::rs)
  (hi:0<=i/\i<n) (hj:0<=j/\j<n) (hij:i≠j) (hQ:∀ac,Deed aa ac κ e s u n U (κ::e::x::d::r::b::rs)->Q (.bool true) ac) :
  (sem zae zaj (k+11) true).run "" "_law_goes" [.ref κ,.ref s,.bool false,.int i,.int j] aa Q X:=by
 have tok:zap n (min i j,max i j):=zmH hi hj hij;refine zag (F:=zbi) rfl ⟨rfl,?_⟩
 delta zbi zau zjH
 refine st0 hs (st1 hs (zih hs.ties hi hj hij ?_));rw [if_neg qan];have hSl:S.length<=1600:=by rw [←hU.length_eq];lia
 delta T_law_goes_8 zau ze2
 refine zlj h hS hp hSl hi hj hij (fun m ac e'=>?_) fun m am y dy r1 rs1 a P' F hnew hab K=>?_
 ·rw [if_pos (hU.mem_iff.mpr m)];exact zec (h.ext e') hS hp (hs.ext e') hU (by lia) (by decide) fun aD e''=>hQ _ ⟨fun a o J J J q=>e'' _ _ (e' _ _ q),x,d,r,rs,b,S,T,P,U,(h.ext e').ext e'',hS,hp,(hs.ext e').ext e'',hU,Nat.le_succ _,fun z o J g=>g⟩
 ·have m':(min i j,max i j)∉U:=fun z=>m (hU.mem_iff.mp z);rw [if_neg m'];have se:s≠e:=fun z=>os (z▸tl hd);have ue:u≠e:=fun z=>ou (z▸tl hd);have hs1:StAt am s u n U P.length:=⟨F _ _ se hs.top,F _ _ ue hs.ties⟩;refine ob1 (zjM (n:=n) (U:=S++[(min i j,max i j)]) K.net.nod K.net.ok) ?_;intro S' hS' hp';have ou':=zdi hs.ties ou hnew hab;have os':=zdi hs.top os hnew hab;have ml:=zlO (h.max.mem hp) K.max
  delta T_law_goes_7
  refine zaa (a:=false) rfl (zaq ?_)
  delta T_law_goes_6
  refine ⟨sz2,?_⟩
  delta T_law_goes_5
  refine zaq (st1 hs1 (zak hs1.ties (zaJ hs1.ties (by rw [qac];unfold zao;lia) ?_)))
  have K2:=K.upd (o:=.list (U.map pr++[.tup [.int (min i j),.int (max i j)]])) ou';have hs2:StAt (am.upd u (.list (U.map pr++[.tup [.int (min i j),.int (max i j)]]))) s u n (U++[(min i j,max i j)]) P.length:=⟨(zaf hs.ne).trans hs1.top,by rw [zab,List.map_append];rfl⟩
  refine zh7 K2 hS' hp' hs2 ((hU.append_right _).trans hp') (by rw [qat,List.length_singleton];lia) (by lia) (by lia) fun ax e3=>hQ _ ⟨fun a o n1 n2 n3 g=>?_,y,dy,r1,rs1,a,S',_,P',U++[(min i j,max i j)],(K2.ext e3).upd os',hS',hp',⟨zab,(zaf hs.ne.symm).trans (e3 _ _ hs2.ties)⟩,(hU.append_right _).trans hp',by rw [qat,List.length_singleton];exact qal _,fun z o hz g=>zdi hz g hnew hab⟩
  exact (zaf n2).trans (e3 _ _ ((zaf n3).trans (F _ _ n1 g)))
theorem zod {q:Int×Int} (hn:U.Nodup) (m:q∈U):∃A B,U=A++q::B/\q∉A/\A++B=but q U:=by
 refine ob20 (List.append_of_mem m) ?_;intro A B ee284;subst ee284;refine ob19 (List.nodup_append.mp hn) ?_;intro J h2 h3;have nA:q∉A:=fun z=>h3 q z q (qaj ..) rfl;have nB:q∉B:=(qar.mp h2).1;refine ⟨A,B,rfl,nA,?_⟩;have f:∀{L:List (Int×Int)},q∉L->but q L=L:=fun {L} h=>List.filter_eq_self.mpr fun a ha=>by rw [qai (fun e:a=q=>h (e▸ha))];rfl
 have:but q (A++q::B)=but q A++but q B:=by
  unfold but;rw [List.filter_append,List.filter_cons,if_neg (by rw [qaf rfl];exact qan)]
 rw [this,f nA,f nB]
theorem zl8 {i j:Int} (h:KeptAt aa κ e x d r rs b n T P) (hS:zb0 n S) (hp:T.Perm S) (hs:StAt aa s u n U P.length) (hU:U.Perm S) (hlen:U.length<64) (os:s∉κ::e::x::d::r::b::rs) (ou:u∉κ::e::x::d::r::b::rs)
  (hi:0<=i/\i<n) (hj:0<=j/\j<n) (hij:i≠j) (hQ:∀ac,Deed aa ac κ e s u n U (κ::e::x::d::r::b::rs)->Q (.bool true) ac) :
  (sem zae zaj (k+11) true).run "" "_law_goes" [.ref κ,.ref s,.bool true,.int i,.int j] aa Q X:=by
 refine zag (F:=zbi) rfl ⟨rfl,?_⟩
 delta zbi zau zjH
 refine st0 hs (st1 hs (zih hs.ties hi hj hij ?_));rw [if_pos rfl];have hSl:S.length<=1600:=by rw [←hU.length_eq];lia
 have hUn:U.Nodup:=hU.nodup_iff.mpr (hp.nodup_iff.mp h.net.nod)
 delta T_law_goes_8 zau ze2
 refine zlk h hS hp hSl hi hj hij (fun m ac e'=>?_) fun m am y dy r1 rs1 a P' F hnew hab K=>?_
 ·rw [if_neg fun z=>m (hU.mem_iff.mp z)];exact zec (h.ext e') hS hp (hs.ext e') hU hlen (by decide) fun aD e''=>hQ _ ⟨fun a o J J J q=>e'' _ _ (e' _ _ q),x,d,r,rs,b,S,T,P,U,(h.ext e').ext e'',hS,hp,(hs.ext e').ext e'',hU,Nat.le_succ _,fun z o J g=>g⟩
 ·have m':(min i j,max i j)∈U:=hU.mem_iff.mpr m;rw [if_pos m'];refine ob2 (zod hUn m') ?_;intro A B hAB nA hb;have se:s≠e:=fun z=>os (z▸tl hd);have ue:u≠e:=fun z=>ou (z▸tl hd);have hs1:StAt am s u n U P.length:=⟨F _ _ se hs.top,F _ _ ue hs.ties⟩;have hS':zb0 n (but (min i j,max i j) S):=⟨hS.1.filter _,fun p z=>hS.2 p (mem_but.mp z).1⟩;have hU':(A++B).Perm (but (min i j,max i j) S):=by rw [hb];exact hU.filter _
  have ou':=zdi hs.ties ou hnew hab;have os':=zdi hs.top os hnew hab;have ml:=zlX (h.max.mem hp) K.max;have hl:(A++B).length+1=U.length:=by rw [hAB,qat,qat,List.length_cons];lia
  delta T_law_goes_7
  refine zaa (a:=false) rfl (zaq ?_)
  delta T_law_goes_6
  refine ⟨sz2,?_⟩
  delta T_law_goes_5
  refine zaI (st1 hs1 (zak hs1.ties (zak hs1.ties ⟨A,B,(min i j,max i j),⟨by rw [←hAB];rfl,rfl,nA⟩,?_⟩)))
  have K2:=K.upd (o:=.list ((A++B).map pr)) ou';have hs2:StAt (am.upd u (.list ((A++B).map pr))) s u n (A++B) P.length:=⟨(zaf hs.ne).trans hs1.top,zab⟩;refine zh7 K2 hS' (List.Perm.refl _) hs2 hU' (by lia) (by lia) (by lia) fun ax e3=>hQ _ ⟨fun a o n1 n2 n3 g=>?_,y,dy,r1,rs1,a,_,_,P',A++B,(K2.ext e3).upd os',hS',List.Perm.refl _,⟨zab,(zaf hs.ne.symm).trans (e3 _ _ hs2.ties)⟩,hU',by lia,fun z o hz g=>zdi hz g hnew hab⟩
  exact (zaf n2).trans (e3 _ _ ((zaf n3).trans (F _ _ n1 g)))
end
section
variable {k:Nat} {aa am au ac:Store} {Q:V->Store->Prop} {X:XP} {κ e x d r b u s:Addr} {rs:List Addr} {n:Int} {S T P U:List (Int×Int)} {v w:V} {md c:Bool}
theorem Deed.ext {A:List Addr} (D:Deed am au κ e s u n U A) (g:Ext aa am) (g':Ext au ac):Deed aa ac κ e s u n U A:=by
 refine ob78 D ?_;clear D;intro F x d r rs b S T P U' K h1 h2 h3 h4 h5 h6;exact ⟨fun a o n1 n2 n3 q=>g' _ _ (F _ _ n1 n2 n3 (g _ _ q)),x,d,r,rs,b,S,T,P,U',K.ext g',h1,h2,h3.ext g',h4,h5,fun z o hz=>h6 z o (g _ _ hz)⟩
theorem zkw (h:KeptAt aa κ e x d r rs b n T P) (hS:zb0 n S) (hp:T.Perm S) (hs:StAt aa s u n U P.length) (hU:U.Perm S) (hlen:U.length<63) (os:s∉κ::e::x::d::r::b::rs) (ou:u∉κ::e::x::d::r::b::rs)
  (hv:Two n v w\/zhx n v w) (hQ:∀ac,Deed aa ac κ e s u n U (κ::e::x::d::r::b::rs)->Q (.bool true) ac) :
  (sem zae zaj (k+11) true).run "" "_law_goes" [.ref κ,.ref s,.bool c,v,w] aa Q X:=by
 rcases hv with ⟨i,j,rfl,rfl,hi,hj,hij⟩ |hv
 ·cases c with
  |true=>exact zl8 h hS hp hs hU (by lia) os ou hi hj hij hQ
  |false=>exact zl7 h hS hp hs hU hlen os ou hi hj hij hQ
 ·exact zl9 h hS hp hs hU (by lia) hv fun ac e'=>hQ _ ⟨fun a o J J J q=>e' _ _ q,x,d,r,rs,b,S,T,P,U,h.ext e',hS,hp,hs.ext e',hU,Nat.le_succ _,fun z o J g=>g⟩
theorem zkF (h:KeptAt aa κ e x d r rs b n T P) (hS:zb0 n S) (hp:T.Perm S) (hs:StAt aa s u n U P.length) (hU:U.Perm S) (hlen:U.length<63) (os:s∉κ::e::x::d::r::b::rs) (ou:u∉κ::e::x::d::r::b::rs)
  (hv:Two n v w\/zhx n v w) (hQ:∀ac,Deed aa ac κ e s u n U (κ::e::x::d::r::b::rs)->Q (.bool true) ac) :
  (sem zae zaj (k+12) true).run "" "_law_done" [.ref κ,.ref s,.bool c,v,w] aa Q X:=by
 have hlo:=h.net.lo;have hhi:=h.net.hi;have hSl:S.length<63:=by rw [←hU.length_eq];exact hlen
 have hUn:U.Nodup:=hU.nodup_iff.mpr (hp.nodup_iff.mp h.net.nod);have hPl:=zcD (h.max.1.ok h.net.ok) h.max.1.2 (by lia) hhi
 refine zag (F:=zdr) rfl ⟨rfl,?_⟩
 delta zdr
 refine zah h.top h.dic ⟨⟨rfl,tb_pairs⟩,zeG h fun a ha=>?_⟩;have e1:=(Ext.rfl (aa:=aa)).upd (o:=.list (P.map pr)) ha;have ha1:(aa.upd a (.list (P.map pr))) a=some (.list (P.map pr)):=zab;generalize aa.upd a (.list (P.map pr))=am at *
 delta T_law_done_5
 rw [zkV];refine zak ha1 ?_;refine ⟨by rw [qac];unfold zao;lia,fun f hf=>?_⟩
 have e2:=(Ext.rfl (aa:=am)).upd (o:=.list (P.map pr)) hf;have hf2:(am.upd f (.list (P.map pr))) f=some (.list (P.map pr)):=zab;generalize am.upd f (.list (P.map pr))=au at *;have h2:=h.ext (e1.trans e2)
 delta T_law_done_4
 refine zah h2.top h2.dic ⟨⟨rfl,tb_knet⟩,zd9 h2 hS hp (by lia) fun ax y dy r3 rs3 e3 hnew hN=>?_⟩
 have E3:=(e1.trans e2).trans e3;have hs3:=hs.ext E3
 delta T_law_done_3
 refine st1 hs3 (zhQ hs3.ties hUn (by lia) hS.1 hU fun g hg=>?_)
 have e4:=(Ext.rfl (aa:=ax)).upd (o:=.list (S.map pr)) hg;have hg4:(ax.upd g (.list (S.map pr))) g=some (.list (S.map pr)):=zab;generalize ax.upd g (.list (S.map pr))=ay at *;have E4:=E3.trans e4;have h4:=h.ext E4
 delta T_law_done_2 zau znc
 refine zkw h4 hS hp (hs.ext E4) hU hlen os ou hv fun aJ D=>?_;have old:∀z∈[e,s,u],∃o,aa z=some o:=al ⟨_,h.dic⟩ (al ⟨_,hs.top⟩ (al ⟨_,hs.ties⟩ al0));have D1:∀z o,z∉[e,s,u]->ay z=some o->aJ z=some o:=fun z o m=>D.1 z o (fun q=>m (q▸hd)) (fun q=>m (q▸tl hd)) (fun q=>m (q▸tl (tl hd)));have keep:∀z o,aa z=none->ay z=some o->aJ z=some o:=fun z o hz=>D1 z o fun m=>(old z m).elim fun J g=>zbB g hz;have E24:=e3.trans e4;have a5:=keep a _ ha (E24 _ _ (e2 _ _ ha1));have f5:=keep f _ (e1.none hf) (E24 _ _ hf2);have g5:=keep g _ (E3.none hg) hg4;have N5:NetAt aJ y dy r3 rs3 n S:=(hN.ext e4).keep D1 fun z m m'=>(old z m).elim fun J g=>zbB g ((e1.trans e2).none (hnew z m'));refine go_b (b:=true) (zaq ?_)
 delta T_law_done_1
 refine zaa (a:=true) (by rw [zfr];exact zfl a5 f5) (zaI ?_)
 refine zah N5.top N5.dic ⟨⟨rfl,tb_ties⟩,zaV N5 fun z hz=>?_⟩;rw [zaW hS (List.Perm.refl _)];have e6:=(Ext.rfl (aa:=aJ)).upd (o:=.list (S.map pr)) hz;have z6:(aJ.upd z (.list (S.map pr))) z=some (.list (S.map pr)):=zab;generalize aJ.upd z (.list (S.map pr))=aH at *;exact zaa (a:=true) (by rw [zfr];exact zfl z6 (e6 _ _ g5)) (hQ _ (D.ext E4 e6))
end
section
variable {k:Nat} {aa am au ac:Store} {Q:V->Store->Prop} {X:XP} {κ e s u:Addr} {B:List Addr} {n:Int} {v w:V} {c:Bool} {t:Nat}
def Un (aa:Store) (κ e s u:Addr) (n:Int) (t:Nat) (B:List Addr):Prop:=
 ∃x d r rs b S T P U,(KeptAt aa κ e x d r rs b n T P/\zb0 n S/\T.Perm S)/\(StAt aa s u n U P.length/\U.Perm S/\U.length<=t)/\∀z∈s::u::B,z∉κ::e::x::d::r::b::rs
theorem Un.frame (h:Un aa κ e s u n t B) (F:∀a o,a∉B->aa a=some o->ac a=some o) (hs:s∉B) (hu:u∉B):Un ac κ e s u n (t+1) B:=by
 refine ob79 h ?_;clear h;intro x d r rs b S T P U K h1 h2 h3 h4 h5 h6;exact ⟨x,d,r,rs,b,S,T,P,U,⟨K.keep F fun z m=>h6 z (tl (tl m)),h1,h2⟩,⟨⟨F _ _ hs h3.top,F _ _ hu h3.ties⟩,h4,Nat.le_succ_of_le h5⟩,h6⟩
theorem Un.ext (h:Un aa κ e s u n t B) (g:Ext aa ac):Un ac κ e s u n t B:=by
 refine ob79 h ?_;clear h;intro x d r rs b S T P U K h1 h2 h3 h4 h5 h6;exact ⟨x,d,r,rs,b,S,T,P,U,⟨K.ext g,h1,h2⟩,⟨h3.ext g,h4,h5⟩,h6⟩
theorem zm3 (h:Un aa κ e s u n t B) (ht:t<62) (hB:∀z∈B,∃o,aa z=some o) (hv:Two n v w\/zhx n v w)
  (hQ:∀ac,(∀a o,a∉[e,s,u]->aa a=some o->ac a=some o)->Un ac κ e s u n (t+1) B->Q (.bool true) ac) :
  (sem zae zaj (k+12) true).run "" "_law_done" [.ref κ,.ref s,.bool c,v,w] aa Q X:=by
 refine ob79 h ?_;clear h;intro x d r rs b S T P U K h1 h2 h3 h4 h5 h6;refine zkF K h1 h2 h3 h4 (by lia) (h6 s hd) (h6 u (tl hd)) hv fun ac D=>?_
 refine ob78 D ?_;clear D;intro F x' d' r' rs' b' S' T' P' U' K' g1 g2 g3 g4 g5 g6;refine hQ ac (fun a o m=>F a o (fun q=>m (q▸hd)) (fun q=>m (q▸tl hd)) (fun q=>m (q▸tl (tl hd)))) ⟨x',d',r',rs',b',S',T',P',U',⟨K',g1,g2⟩,⟨g3,g4,by lia⟩,fun z m=>?_⟩
 refine ob14 (al (P:=fun z=>∃o,aa z=some o) ⟨_,h3.top⟩ (al ⟨_,h3.ties⟩ hB) z m) ?_;intro o ho;exact g6 z o ho (h6 z m)
end
section
variable {k:Nat} {aa am au ac:Store} {Q:V->Store->Prop} {X:XP} {Y:XL} {N:Loc->Store->Prop} {l K A y:Addr} {κ e s u:Bool->Addr} {n:Bool->Int} {ns:List Int} {v w:V} {b c:Bool} {t:Nat} {t6 t7 t8 t9 t10:Option V}
structure Wd (aa:Store) (l K A y:Addr) (κ e s u:Bool->Addr) (n:Bool->Int) (ns:List Int) (t:Nat):Prop where
 un:∀b,Un aa (κ b) (e b) (s b) (u b) (n b) t [e !b,s !b,u !b]
 ks:aa K=some (.list [.ref (κ false),.ref (κ true)])
 ss:aa A=some (.list [.ref (s false),.ref (s true)])
 li:aa l=some (.fixed (ns.map V.int))
 ea:∃dy ry rsy,NetAt aa y dy ry rsy (n false) []/\∀b,∀z∈[e b,s b,u b],z∉[e !b,s !b,u !b]/\z∉K::A::l::y::dy::ry::rsy
abbrev lo (l K A y:Addr) (n:Bool->Int) (a b c d e:Option V):Loc:=[some (.ref l),some (.int (n false)),some (.int (n true)),some (.ref K),some (.ref A),some (.ref y),a,b,c,d,e]
theorem Wd.ext (h:Wd aa l K A y κ e s u n ns t) (q:Ext aa ac):Wd ac l K A y κ e s u n ns t:=by
 refine ob27 h.ea ?_;intro dy ry rsy h1 h2;exact ⟨fun b=>(h.un b).ext q,q _ _ h.ks,q _ _ h.ss,q _ _ h.li,dy,ry,rsy,h1.ext q,h2⟩
theorem zgN (h:Wd aa l K A y κ e s u n ns t) (b:Bool) (ht:t<62) (hv:Two (n b) v w\/zhx (n b) v w) (hQ:∀ac,Wd ac l K A y κ e s u n ns (t+1)->Q (.bool true) ac) :
  (sem zae zaj (k+12) true).run "" "_law_done" [.ref (κ b),.ref (s b),.bool c,v,w] aa Q X:=by
 refine ob27 h.ea ?_;intro dy ry rsy h1 h2;refine zm3 (h.un b) ht ?_ hv fun ac F o=>hQ ac ?_
 ·refine ob79 (h.un !b) ?_;intro x d r rs b S T P U K h1 h2 h3 h4 h5 h6;exact al ⟨_,K.dic⟩ (al ⟨_,h3.top⟩ (al ⟨_,h3.ties⟩ al0))
 ·have q:∀z,z∈K::A::l::y::dy::ry::rsy->z∉[e b,s b,u b]:=fun z m z'=>(h2 b z z').2 m;refine ⟨fun c=>?_,F _ _ (q _ hd) h.ks,F _ _ (q _ (tl hd)) h.ss,F _ _ (q _ (tl (tl hd))) h.li,dy,ry,rsy,h1.keep F fun z m m'=>(h2 b z m).2 (tl (tl (tl m'))),h2⟩
  by_cases z:c=b
  ·rw [z];exact o
  ·have z:b = !c:=by revert z;cases b<;>cases c<;>decide
   rw [z] at F;exact (h.un c).frame F (h2 c _ (tl hd)).1 (h2 c _ (tl (tl hd))).1
theorem zgU:(zae "" "_law_done").isSome=true:=rfl
theorem zjD:(zae "" "_law_places").isSome=true:=rfl
theorem ziF:(zae "" "_law_no_size").isSome=true:=rfl
theorem zfi {a:Addr} {vs:List V} {i:Int} {v:V} {K:V->Prop} (ha:aa a=some (.fixed vs)) (hi:0<=i) (hv:vs[i.toNat]?=some v) (h:K v):idxV (.ref a) (.int i) aa K:=
 Eq.mpr (zg3 ha) (zdK hi hv h)
theorem zhk {a:Addr} {f:Bool->Addr} {K:V->Prop} (ha:aa a=some (.list [.ref (f false),.ref (f true)])) (h:K (.ref (f b))):idxV (.ref a) (.int (if b=true then 1 else 0)) aa K:=by
 cases b with
 |false=>exact zaG ha (by decide) rfl h
 |true=>exact zaG ha (by decide) rfl h
theorem Un.st {κ e s u:Addr} {n:Int} {B:List Addr} (h:Un aa κ e s u n t B):∃U m,StAt aa s u n U m/\1<=n/\n<=40:=by
 refine ob79 h ?_;clear h;intro x d r rs b S T P U K h1 h2 h3 h4 h5 h6;exact ⟨U,_,h3,K.net.lo,K.net.hi⟩
theorem zjP {i:Nat} (h:Wd aa l K A y κ e s u n ns t) (ht:t<62) (hi:(i:Int)+1<n false)
  (hN:∀ac,Wd ac l K A y κ e s u n ns (t+1)->N (lo l K A y n (some (.int i)) t7 t8 t9 t10) ac) :
  wpSs (sem zae zaj (k+12)) true L_law_1 (lo l K A y n (some (.int i)) t7 t8 t9 t10) aa N Q Y:=by
 delta L_law_1 zau zgU
 refine zaG h.ks (by decide) rfl (zaG h.ss (by decide) rfl ?_)
 rw [zb7];refine zgN h false ht (two_of ⟨by lia,hi⟩ ⟨by lia,by lia⟩) fun ac h'=>?_
 exact go_b (b:=true) (zaq (hN ac h'))
theorem zjQ (h:Wd aa l K A y κ e s u n ns t) (ht:t<62)
  (hN:∀ac t1,t1<=t+1->Wd ac l K A y κ e s u n ns t1->N (lo l K A y n t6 t7 t8 t9 t10) ac) :
  wpSs (sem zae zaj (k+12)) true T_law_1 (lo l K A y n t6 t7 t8 t9 t10) aa N Q Y:=by
 delta T_law_1 zau zgU
 by_cases z:2<n false
 ·refine zaa (a:=true) (congrArg some (qaf z)) (zaI ?_);refine zaG h.ks (by decide) rfl (zaG h.ss (by decide) rfl ?_)
  rw [zdO];exact zgN h false ht (two_of ⟨by lia,by lia⟩ ⟨by lia,by lia⟩) fun ac h'=>go_b (b:=true) (zaq (hN ac _ (qal _) h'))
 ·exact zaa (a:=false) (congrArg some (qai z)) (zaq (zaq (hN aa _ (Nat.le_succ _) h)))
theorem zkK {j:Nat} (h:Wd aa l K A y κ e s u n ns t) (ht:t<62) (hj:j+1<ns.length)
  (hN:∀ac r t8 t9 t10,Wd ac l K A y κ e s u n ns (t+1)->N (lo l K A y n t6 (some (.int r)) t8 t9 t10) ac) :
  wpSs (sem zae zaj (k+12)) true L_law_2 (lo l K A y n t6 (some (.int j)) t8 t9 t10) aa N Q Y:=by
 have g0:(ns.map V.int)[((j:Int)).toNat]?=some (.int ns[j]):=by rw [Int.toNat_natCast,qau,qas (by lia)];rfl
 have g1:(ns.map V.int)[((j:Int)+1).toNat]?=some (.int ns[j+1]):=by rw [show ((j:Int)+1).toNat=j+1 from rfl,qau,qas hj];rfl
 generalize ns[j]=a at *;generalize ns[j+1]=b at *
 delta L_law_2
 refine zfi h.li (by lia) g0 ⟨by decide,by decide,?_⟩
 refine zaa (a:=(a.fdiv 3).fmod 8==5) rfl ?_;generalize ((a.fdiv 3).fmod 8==5)=q;refine ob2 ((h.un q).st) ?_;intro U m hs l1 l2;rw [zmW]
 delta T_law_3 zau zjD
 refine zfi h.li (by lia) g0 ⟨by decide,?_⟩
 show binV .Add (.int j) (.int 1) aa _;rw [zb7];refine zfi h.li (by lia) g1 (zhk h.ss (st0 hs (zg0 l1 l2 fun am v w e1 hv=>?_)))
 have h1:=h.ext e1;refine zaa rfl ?_
 delta T_law_2 zau zgU
 refine zhk h1.ks (zhk h1.ss (zfi h1.li (by lia) g0 ⟨by decide,zaa (a:=a.fmod 3==2) rfl ?_⟩))
 exact zgN h1 q ht hv fun au h2=>go_b (b:=true) (zaq (hN au _ _ _ _ h2))
theorem zkf {i:Int} (hi:i=if b=true then 1 else 0) (h:Wd aa l K A y κ e s u n ns t) (ht:t<64)
  (hN:∀ac,Wd ac l K A y κ e s u n ns t->N (lo l K A y n t6 t7 (some (.int i)) t9 t10) ac) :
  wpSs (sem zae zaj (k+12)) true L_law_3 (lo l K A y n t6 t7 (some (.int i)) t9 t10) aa N Q Y:=by
 subst hi
 delta L_law_3 zau zdV
 refine ob79 (h.un b) ?_;intro x d r rs w S T P U Kp h1 h2 h3 h4 h5 h6;refine zhk h.ks (zhk h.ss (st0 h3 (zhk h.ss (st1 h3 (zcL Kp h1 h2 h3.ties h4 (by lia) fun ac q=>?_)))))
 refine zhk (q _ _ h.ss) (st2 (h3.ext q) ?_);exact zaa (a:=false) (by show some (!((P.length:Int)==P.length))=_;rw [beq_self_eq_true];rfl) (zaq (hN ac (h.ext q)))
theorem zkE (h:Wd aa l K A y κ e s u n ns t) (hQ:∀ac,Q (.bool true) ac) :
  wpSs (sem zae zaj (k+12)) true T_law_4 (lo l K A y n t6 t7 t8 t9 t10) aa N Q Y:=by
 refine ob27 h.ea ?_;intro dy ry rsy E J;have hlo:=E.lo
 delta T_law_4
 refine zah E.top E.dic ⟨⟨rfl,tb_ties⟩,zaV E fun z hz=>?_⟩;rw [zaW (n:=n false) (T:=[]) ⟨List.Pairwise.nil,fun p m=>absurd m qam⟩ (List.Perm.refl _)];have e1:=(Ext.rfl (aa:=aa)).upd (o:=.list (([]:List (Int×Int)).map pr)) hz;have hz1:(aa.upd z (.list (([]:List (Int×Int)).map pr))) z=some (.list (([]:List (Int×Int)).map pr)):=zab;generalize aa.upd z (.list (([]:List (Int×Int)).map pr))=am at *;refine ⟨by decide,fun f hf=>?_⟩
 refine zaa (a:=true) (by rw [zfr];exact zfl (l:=[]) ((Ext.rfl.upd hf) _ _ hz1) zab) (zaI ?_)
 have N2:=(E.ext e1).ext ((Ext.rfl (aa:=am)).upd (o:=.list []) hf);refine zah N2.top N2.dic ⟨⟨rfl,tb_beside⟩,zb8 (i:=0) N2 (by lia) fun c hc=>?_⟩
 rw [show zaw (nb [] ((0:Nat):Int))=[] by simp [nb,zaw]]
 refine ⟨by decide,fun q hq=>?_⟩
 exact zaa (a:=true) (by rw [zfr];exact zfm (l:=[]) ((Ext.rfl.upd hq) _ _ zab) zab) (hQ _)
theorem zpR (h:Wd aa l K A y κ e s u n ns t) (ht:t<64) (hQ:∀ac,Q (.bool true) ac) :
  wpSs (sem zae zaj (k+12)) true T_law_5 (lo l K A y n t6 t7 t8 t9 t10) aa N Q Y:=by
 delta T_law_5
 refine ⟨by decide,?_⟩
 refine zaF (fun m ad ac=>∃t8,Wd ac l K A y κ e s u n ns t/\ad=(lo l K A y n t6 t7 t8 t9 t10)) ⟨t8,h,rfl⟩ (fun J J J J=>trivial) ?_ ?_
 ·intro m v ad ac K' hv zz93;refine ob1 zz93 ?_;clear zz93;intro t8 h ee285;subst ee285;intro hK;refine ob16 (zbl hv) ?_;intro ee286;subst ee286;intro hm;refine zkf (b:=decide (m=1)) (by
   by_cases z:m=1
   ·rw [z,qaf rfl];rfl
   ·rw [qai z,if_neg qan];lia) h ht fun aD h=>hK _ _ ⟨_,h,rfl⟩
 ·intro ad ac zz94;refine ob1 zz94 ?_;clear zz94;intro t8 h ee287;subst ee287;exact zkE h hQ
theorem zfJ {hi:Int} {j:Nat} {v:V} (h:((upto 2 hi 2).map V.int)[j]?=some v):v=.int ((2*(j+1):Nat):Int)/\((2*(j+1):Nat):Int)<hi:=by
 unfold upto at h;rw [if_pos (by decide),List.map_map,qau] at h
 cases z:(List.range ((hi-2+2-1)/2).toNat)[j]? with
 |none=>rw [z] at h;cases h
 |some x=>
  rw [z] at h;refine ob14 (List.getElem?_eq_some_iff.mp z) ?_;intro q p;rw [List.length_range] at q;rw [List.getElem_range] at p;subst p;cases h;have e:((2*(j+1):Nat):Int)=2+2*(j:Int):=by rw [Int.natCast_mul,Int.natCast_add,Int.mul_add,Int.add_comm];rfl
  have g:=(Int.le_ediv_iff_mul_le (c:=2) (by decide)).mp (Int.lt_toNat.mp q)
  refine ⟨congrArg V.int e.symm,?_⟩;rw [Int.sub_add_cancel,Int.mul_comm] at g;exact Int.lt_of_le_sub_one (by rw [Int.natCast_mul];exact g)
theorem zo3 (h:Wd aa l K A y κ e s u n ns t) (ht:t<20) (hQ:∀ac,Q (.bool true) ac) :
  wpSs (sem zae zaj (k+12)) true T_law_6 (lo l K A y n t6 t7 t8 t9 t10) aa N Q Y:=by
 delta T_law_6
 rw [zo1 h.li,qac];have m1:min ((ns.length:Int)-1) 50<=50:=Int.min_le_right ..;have m2:min ((ns.length:Int)-1) 50<=(ns.length:Int)-1:=Int.min_le_left ..;have m3:-1<=min ((ns.length:Int)-1) 50:=Int.le_min.mpr ⟨Int.sub_le_sub_right (Int.natCast_nonneg _) 1,by decide⟩
 show (min ((ns.length:Int)-1) 50<2^31/\_)/\forV _ _ _ ((upto 2 (min ((ns.length:Int)-1) 50) 2).map V.int) _ _;generalize min ((ns.length:Int)-1) 50=M at m1 m2 m3 ⊢;have b:∀{m:Nat},((2*(m+1):Nat):Int)<M->m<24:=fun h=>Nat.lt_of_succ_lt_succ (Nat.lt_of_mul_lt_mul_left (a:=2) (Int.ofNat_lt.mp (Int.lt_of_lt_of_le h m1)));refine ⟨⟨Int.lt_of_le_of_lt m1 (show (50:Int)<2^31 by decide),Int.lt_of_lt_of_le (show -(2^31)<(-1:Int) by decide) m3,by decide⟩,?_⟩
 refine zaF (fun m ad ac=>∃t7 t8 t9 t10,Wd ac l K A y κ e s u n ns (t+m)/\ad=lo l K A y n t6 t7 t8 t9 t10) ⟨_,_,_,_,h,rfl⟩ (fun J J J J=>trivial) ?_ ?_
 ·intro m v ad ac K' hv zz95;refine ob21 zz95 ?_;clear zz95;intro t7 t8 t9 t10 h ee288;subst ee288;intro hK;refine ob16 (zfJ hv) ?_;intro ee289;subst ee289;intro hm;exact zkK (j:=2*(m+1)) h (Nat.lt_of_lt_of_le (Nat.add_lt_add ht (b hm)) (by decide)) (Int.ofNat_lt.mp (Int.add_lt_of_lt_sub_right (Int.lt_of_lt_of_le hm m2))) fun aD r t8 t9 t10 h=>hK _ _ ⟨_,_,_,_,h,rfl⟩
 ·intro ad ac zz96;refine ob21 zz96 ?_;clear zz96;intro t7 t8 t9 t10 h ee290;subst ee290;refine zpR h (Nat.lt_of_lt_of_le (Nat.add_lt_add ht (Nat.lt_of_not_le fun q:25<=_=>?_)) (by decide)) hQ
  exact Nat.lt_irrefl 24 (b (zfJ (qas q)).2)
theorem zpQ (h:Wd aa l K A y κ e s u n ns 0) {p:Nat} (hp:n false-1=p) (h9:p<9) (hQ:∀ac,Q (.bool true) ac) :
  wpSs (sem zae zaj (k+12)) true T_law_7 (lo l K A y n t6 t7 t8 t9 t10) aa N Q Y:=by
 delta T_law_7 zau ze3
 refine zdN h.li (by decide) fun c=>⟨by decide,by decide,zaa (a:=(c.fdiv 5).fmod 3==1) rfl ?_⟩
 cases (c.fdiv 5).fmod 3==1 with
 |false=>exact zaq (zo3 h (by decide) hQ)
 |true=>
  refine zaI ?_;rw [zdO,hp];refine ⟨⟨Int.lt_trans (Int.ofNat_lt.mpr h9) (show ((9:Nat):Int)<2^31 by decide),Int.lt_of_lt_of_le (show -(2^31)<(0:Int) by decide) (Int.natCast_nonneg p)⟩,?_⟩
  refine zaF (fun m ad ac=>∃t6,Wd ac l K A y κ e s u n ns m/\ad=lo l K A y n t6 t7 t8 t9 t10) ⟨_,h,rfl⟩ (fun J J J J=>trivial) ?_ ?_
  ·intro m v ad ac K' hv zz97;refine ob1 zz97 ?_;clear zz97;intro t6 h ee291;subst ee291;intro hK;refine ob16 (zbl hv) ?_;intro ee292;subst ee292;intro hm;rw [Int.zero_add] at hm ⊢;exact zjP (i:=m) h (Nat.lt_trans (Int.ofNat_lt.mp hm) (Nat.lt_trans h9 (by decide))) (Int.add_lt_of_lt_sub_right (hp▸hm)) fun aD h=>hK _ _ ⟨_,h,rfl⟩
  ·intro ad ac zz98;refine ob1 zz98 ?_;clear zz98;intro t6 h ee293;subst ee293;rw [qac,za2,Int.toNat_natCast] at h;exact zjQ h (Nat.lt_trans h9 (by decide)) fun aD t1 ht h=>zo3 h (Nat.lt_of_le_of_lt ht (Nat.lt_trans (Nat.succ_lt_succ h9) (by decide))) hQ
theorem zpP {p:Nat} (h:Wd aa l K A y κ e s u n ns 0) (hp:n false-1=p) (h9:p<9) (hQ:∀ac,Q (.bool true) ac) :
  wpSs (sem zae zaj (k+12)) true T_law_8 (lo l K A y n t6 t7 t8 t9 t10) aa N Q Y:=by
 delta T_law_8 zau ze3 ziF
 refine ⟨by decide,fun a ha=>?_⟩
 have h1:=h.ext (Ext.rfl.upd (o:=.list [.int 0,.int (-1),.int 41,.bool true,.str (Str.ofString "3"),.none]) ha);refine zdN h1.li (by decide) fun c=>⟨by decide,by decide,?_⟩
 have lo:=Int.fmod_nonneg_of_pos (c.fdiv 15) (show (0:Int)<6 by decide)
 have hi:=Int.fmod_lt_of_pos (c.fdiv 15) (show (0:Int)<6 by decide)
 generalize (c.fdiv 15).fmod 6=i at *;have q:∀v∈[V.int 0,.int (-1),.int 41,.bool true,.str (Str.ofString "3"),.none],Bad 41 v\/v=.int 0:=
  al (.inr rfl) (al (.inl (.inl (by decide))) (al (.inl (.inr (by decide))) (al (.inl trivial) (al (.inl trivial) (al (.inl trivial) al0)))))
 have hj:i.toNat < [V.int 0,.int (-1),.int 41,.bool true,.str (Str.ofString "3"),.none].length:=(Int.toNat_lt lo).mpr hi;have hv:=qas hj;have hb:=q _ (List.getElem_mem hj);refine zaG zab lo hv (zfZ hb fun ac e1=>?_);exact go_b (b:=true) (zaq (zpQ (h1.ext e1) hp h9 hQ))
end
section
variable {k:Nat} {aa am au ac:Store} {Q:V->Store->Prop} {X:XP} {Y:XL} {N:Loc->Store->Prop} {l K κ e aX e' x d r b x' d' r' b' z:Addr} {rs rs':List Addr} {n g:Int} {ns:List Int} {T P:List (Int×Int)}
theorem KeptAt.all (h:KeptAt aa κ e x d r rs b n T P):∀z∈κ::e::x::d::r::b::rs,∃o,aa z=some o/\(z=e\/∀v fs,o≠.ns (("now",v)::fs)):=
 al ⟨_,h.top,.inr fun v fs=>nofun⟩ (al ⟨_,h.dic,.inl rfl⟩ (al ⟨_,h.net.top,.inr fun v fs=>nofun⟩ (al ⟨_,h.net.dic,.inr fun v fs q=>by
  injection q with q;injection q with q _;injection q with q _
  exact absurd q (by decide)⟩ (al ⟨_,h.net.rows.top,.inr fun v fs=>nofun⟩ (al ⟨_,h.lst,.inr fun v fs=>nofun⟩ fun z m=>by
   refine ob14 (List.getElem?_of_mem m) ?_;intro i hi;exact ⟨_,h.net.rows.row i z hi,.inr fun v fs=>nofun⟩)))))
theorem KeptAt.live (h:KeptAt aa κ e x d r rs b n T P) (hz:aa z=none):z∉κ::e::x::d::r::b::rs:=fun m=>by
 refine ob1 (h.all z m) ?_;intro o ho J;exact zbB ho hz
theorem KeptAt.off {v:V} {fs:List (String×V)} (h:KeptAt aa κ e x d r rs b n T P) (hz:aa z=some (.ns (("now",v)::fs))) (ne:z≠e):z∉κ::e::x::d::r::b::rs:=fun m=>by
 refine ob1 (h.all z m) ?_;intro o ho q;exact q.elim ne fun q=>q v fs (Option.some.inj (ho.symm.trans hz))
def Nw (aa am:Store) (z:Addr):Prop:=aa z=none/\∃o,am z=some o
theorem zow {A y dy r1 s u s' u':Addr} {rs1:List Addr} (h:KeptAt aa κ e x d r rs b n [] []) (h':KeptAt aa aX e' x' d' r' rs' b' g [] []) (ne:e≠e') (hK:aa K=some (.list [.ref κ,.ref aX])) (hli:aa l=some (.fixed (ns.map V.int)))
  (E:Ext aa ac) (su':s≠u') (ss:s≠s') (uu:u≠u') (us':u≠s') (nA:A∉[u,s,u',s']) (h1:Nw aa am u) (h2:Nw aa am s) (h3:Nw aa am u') (h4:Nw aa am s') (hA0:aa A=none) (E1:Ext aa am) (hy:∀z∈y::dy::r1::rs1,am z=none) (hN:NetAt ac y dy r1 rs1 n [])
  (hs:StAt ac s u n [] 0) (hs':StAt ac s' u' g [] 0) (hA:ac A=some (.list [.ref s,.ref s'])) :
  ∃a b c d f,(f false=n/\f true=g)/\Wd ac l K A y a b c d f ns 0:=by
 have q:∀z,(∃o,am z=some o)->z≠A->z≠K->z≠l->z∉K::A::l::y::dy::r1::rs1:=fun z ⟨o,ho⟩ a b c=>no (al b (al a (al c fun y m=>zaH ho (hy y m))));have q0:∀z∈[u,s,u',s'],Nw aa am z->z∉K::A::l::y::dy::r1::rs1:=fun z m a=>q z a.2 (fun p=>nA (p▸m)) (zc6 a.1 hK) (zc6 a.1 hli);have qe:∀z v fs,aa z=some (.ns (("now",v)::fs))->z∉K::A::l::y::dy::r1::rs1:=fun z v fs m=>q z ⟨_,E1 _ _ m⟩ (zaH m hA0) (za7 m hK nofun) (za7 m hli nofun);have a1:∀z∈[e,s,u],z∉[e',s',u']:=al (no (al ne (al (zaH h.dic h4.1) (al (zaH h.dic h3.1) al0)))) (al (no (al (zc6 h2.1 h'.dic) (al ss (al su' al0)))) (al (no (al (zc6 h1.1 h'.dic) (al us' (al uu al0)))) al0));have n0:∀n,zb0 n []:=fun n=>⟨.nil,fun p m=>absurd m qam⟩;refine ⟨fun b=>cond b aX κ,fun b=>cond b e' e,fun b=>cond b s' s,fun b=>cond b u' u,fun b=>cond b g n,⟨rfl,rfl⟩,fun b=>?_,E _ _ hK,hA,E _ _ hli,dy,r1,rs1,hN,fun b=>?_⟩
 ·cases b with
  |false=>exact ⟨x,d,r,rs,_,[],[],[],[],⟨h.ext E,n0 _,.refl _⟩,⟨hs,.refl _,qal _⟩,al (h.live h2.1) (al (h.live h1.1) (al (h.off h'.dic ne.symm) (al (h.live h4.1) (al (h.live h3.1) al0))))⟩
  |true=>exact ⟨x',d',r',rs',_,[],[],[],[],⟨h'.ext E,n0 _,.refl _⟩,⟨hs',.refl _,qal _⟩,al (h'.live h4.1) (al (h'.live h3.1) (al (h'.off h.dic ne) (al (h'.live h2.1) (al (h'.live h1.1) al0))))⟩
 ·cases b with
  |false=>exact fun z m=>⟨a1 z m,al (P:=fun z=>z∉K::A::l::y::dy::r1::rs1) (qe _ _ _ h.dic) (al (q0 _ (tl hd) h2) (al (q0 _ hd h1) al0)) z m⟩
  |true=>exact fun z m=>⟨fun m'=>a1 z m' m,al (P:=fun z=>z∉K::A::l::y::dy::r1::rs1) (qe _ _ _ h'.dic) (al (q0 _ (tl (tl (tl hd))) h4) (al (q0 _ (tl (tl hd)) h3) al0)) z m⟩
theorem zo4 (h:KeptAt aa κ e x d r rs b n [] []) (h':KeptAt aa aX e' x' d' r' rs' b' g [] []) (ne:e≠e')
  (hK:aa K=some (.list [.ref κ,.ref aX])) (hli:aa l=some (.fixed (ns.map V.int))) {p:Nat} (hp:n-1=p) (h9:p<9) (hQ:∀ac,Q (.bool true) ac) :
  wpSs (sem zae zaj (k+12)) true T_law_10 [some (.ref l),some (.int n),some (.int g),some (.ref K),none,none,none,none,none,none,none] aa N Q Y:=by
 delta T_law_10
 refine ⟨by decide,fun u hu=>⟨by decide,fun s hs=>⟨by decide,fun u' hu'=>⟨by decide,fun s' hs'=>⟨by decide,fun A hA=>?_⟩⟩⟩⟩⟩
 have e1:=(Ext.rfl (aa:=aa)).upd (o:=.list []) hu;have u1:(aa.upd u (.list [])) u=some (.list []):=zab;generalize aa.upd u (.list [])=am at *;have e2:=(Ext.rfl (aa:=am)).upd (o:=.list [.int n,.ref u,.int 0]) hs;have s2:(am.upd s (.list [.int n,.ref u,.int 0])) s=some (.list [.int n,.ref u,.int 0]):=zab;generalize am.upd s (.list [.int n,.ref u,.int 0])=au at *;have e3:=(Ext.rfl (aa:=au)).upd (o:=.list []) hu';have u3:(au.upd u' (.list [])) u'=some (.list []):=zab;generalize au.upd u' (.list [])=ax at *;have e4:=(Ext.rfl (aa:=ax)).upd (o:=.list [.int g,.ref u',.int 0]) hs';have s4:(ax.upd s' (.list [.int g,.ref u',.int 0])) s'=some (.list [.int g,.ref u',.int 0]):=zab;generalize ax.upd s' (.list [.int g,.ref u',.int 0])=ay at *;have e5:=(Ext.rfl (aa:=ay)).upd (o:=.list [.ref s,.ref s']) hA;have A5:(ay.upd A (.list [.ref s,.ref s'])) A=some (.list [.ref s,.ref s']):=zab;generalize ay.upd A (.list [.ref s,.ref s'])=aJ at *;have E2:=e1.trans e2;have E3:=E2.trans e3;have E4:=E3.trans e4;have E:=E4.trans e5;have u2:=e2 _ _ u1;have u'4:=e4 _ _ u3;have s4':=e4 _ _ (e3 _ _ s2);have u4:=e4 _ _ (e3 _ _ u2);have K5:=h.ext E
 delta T_law_9
 refine zaG (E _ _ hK) (by decide) rfl (zah K5.top K5.dic ⟨⟨rfl,tb_knet⟩,zd9 K5 ⟨.nil,fun p m=>absurd m qam⟩ (.refl _) (by decide) fun aH y dy r1 rs1 e6 hy hN=>?_⟩)
 refine ob80 (zow h h' ne hK hli (E.trans e6) (zaH s2 hu') (zaH (e3 _ _ s2) hs') (zaH u2 hu') (zaH (e3 _ _ u2) hs') (no (al (zc6 hA u4) (al (zc6 hA s4') (al (zc6 hA u'4) (al (zc6 hA s4) al0))))) ⟨hu,_,e5 _ _ u4⟩ ⟨e1.none hs,_,e5 _ _ s4'⟩ ⟨E2.none hu',_,e5 _ _ u'4⟩ ⟨E3.none hs',_,e5 _ _ s4⟩ (E4.none hA) E hy hN ⟨e6 _ _ (e5 _ _ s4'),e6 _ _ (e5 _ _ u4)⟩ ⟨e6 _ _ (e5 _ _ s4),e6 _ _ (e5 _ _ u'4)⟩ (e6 _ _ A5)) ?_;intro J J J J f ee294;subst ee294;intro ee295;subst ee295;intro W;exact zpP W hp h9 hQ
theorem law_spec (hl:aa l=some (.fixed (ns.map V.int))) (hQ:∀ac,Q (.bool true) ac):(sem zae zaj (k+13) true).run "" "law" [.ref l] aa Q X:=by
 refine zag (F:=zot) rfl ⟨rfl,?_⟩
 delta zot zau ze3
 refine zdN hl (by decide) fun c=>⟨by decide,?_⟩
 show binV .Add (.int 1) (.int (c.fmod 9)) aa _;rw [zb7];refine ob14 (Int.eq_ofNat_of_zero_le (Int.fmod_nonneg_of_pos c (show (0:Int)<9 by decide))) ?_
 intro p hp;have h9:p<9:=Int.ofNat_lt.mp (hp▸Int.fmod_lt_of_pos c (by decide))
 rw [hp];have n1:(1:Int)<=1+(p:Int):=Int.le_add_of_nonneg_right (Int.natCast_nonneg p);have n2:1+(p:Int)<=40:=Int.le_trans (Int.add_le_add_left (Int.le_of_lt (Int.ofNat_lt.mpr h9)) 1) (by decide)
 have n3:1+(p:Int)-1=p:=by rw [Int.add_comm,Int.add_sub_cancel]
 generalize 1+(p:Int)=n at *;show wpSs (sem zae zaj (k+12)) true T_law_12 [some (.ref l),some (.int n),none,none,none,none,none,none,none,none,none] _ _ _ _
 delta T_law_12 zau ze3
 refine ⟨by decide,fun a ha=>?_⟩
 have ea:=(Ext.rfl (aa:=aa)).upd (o:=.list [.int n,.int 40]) ha;have a1:(aa.upd a (.list [.int n,.int 40])) a=some (.list [.int n,.int 40]):=zab;generalize aa.upd a (.list [.int n,.int 40])=am at *;refine zdN (ea _ _ hl) (by decide) fun c=>⟨by decide,zaa (a:=c.fmod 5==3) rfl ?_⟩
 rw [zmW];have q:∃g:Int,[V.int n,.int 40][(if (c.fmod 5==3)=true then (1:Int) else 0).toNat]?=some (.int g)/\1<=g/\g<=40:=by
  cases c.fmod 5==3 with
  |false=>exact ⟨n,rfl,n1,n2⟩
  |true=>exact ⟨40,rfl,by decide,by decide⟩
 refine ob6 q ?_;clear q;intro g hg g1 g2;refine zaG a1 (by split<;>decide) hg ?_
 show wpSs (sem zae zaj (k+12)) true T_law_11 [some (.ref l),some (.int n),some (.int g),none,none,none,none,none,none,none,none] _ _ _ _
 delta T_law_11 zau zhM
 intro κ e bH he ne;refine zeO zab (by rw [zaf ne.symm,zab]) n1 n2 fun ax x d r rs b F K3=>?_
 have E3:=zcB bH he F;refine ⟨rfl,?_⟩;intro aX e' hκ' he' ne';refine zeO zab (by rw [zaf ne'.symm,zab]) g1 g2 fun ay x' d' r' rs' b' F' K4=>?_
 have E4:=zcB hκ' he' F';refine ⟨rfl,by decide,fun K hK=>?_⟩
 have E5:=(Ext.rfl (aa:=ay)).upd (o:=.list [.ref κ,.ref aX]) hK;exact zo4 (K3.ext (E4.trans E5)) (K4.ext E5) (zaH K3.dic he') zab (E5 _ _ (E4 _ _ (E3 _ _ (ea _ _ hl)))) n3 h9 hQ
end
end Mine.Internal
end
section
theorem PySem.Challenge.cw_uf010024_11_holds : PySem.Challenge.rw_uf010024_11.Holds := by
 exact Mine.Internal.join11 fun l ns h=>Mine.Internal.law_spec (k:=7) (ns:=ns) (by simp [Mine.Internal.sig0]) fun J=>rfl
end
