/- The program is laid out as the rows ask: type by type. No condition. -/
import Derived.Test.YtmcigdddcknmmaaGreatRows
import Derived.JoinedOf
import Derived.KernelRfl
namespace Go.Proofs.YtmcigdddcknmmaaGreat
open Go
set_option maxRecDepth 10000000 in
theorem lo0 : (List.range' 0 60).all (rowFine Tryz.prog) = true := by kernel_rfl
set_option maxRecDepth 10000000 in
theorem lo1 : (List.range' 60 60).all (rowFine Tryz.prog) = true := by kernel_rfl
set_option maxRecDepth 10000000 in
theorem lo2 : (List.range' 120 60).all (rowFine Tryz.prog) = true := by kernel_rfl
set_option maxRecDepth 10000000 in
theorem lo3 : (List.range' 180 60).all (rowFine Tryz.prog) = true := by kernel_rfl
set_option maxRecDepth 10000000 in
theorem lo4 : (List.range' 240 60).all (rowFine Tryz.prog) = true := by kernel_rfl
set_option maxRecDepth 10000000 in
theorem lo5 : (List.range' 300 60).all (rowFine Tryz.prog) = true := by kernel_rfl
set_option maxRecDepth 10000000 in
theorem lo6 : (List.range' 360 60).all (rowFine Tryz.prog) = true := by kernel_rfl
set_option maxRecDepth 10000000 in
theorem lo7 : (List.range' 420 60).all (rowFine Tryz.prog) = true := by kernel_rfl
set_option maxRecDepth 10000000 in
theorem lo8 : (List.range' 480 60).all (rowFine Tryz.prog) = true := by kernel_rfl
set_option maxRecDepth 10000000 in
theorem lo9 : (List.range' 540 60).all (rowFine Tryz.prog) = true := by kernel_rfl
set_option maxRecDepth 10000000 in
theorem lo10 : (List.range' 600 60).all (rowFine Tryz.prog) = true := by kernel_rfl
set_option maxRecDepth 10000000 in
theorem lo11 : (List.range' 660 60).all (rowFine Tryz.prog) = true := by kernel_rfl
set_option maxRecDepth 10000000 in
theorem lo12 : (List.range' 720 60).all (rowFine Tryz.prog) = true := by kernel_rfl
set_option maxRecDepth 10000000 in
theorem lo13 : (List.range' 780 27).all (rowFine Tryz.prog) = true := by kernel_rfl
theorem all_more {p : Nat → Bool} {a m n b : Nat} (h : (List.range' a m).all p = true) (hb : b = a + m) (k : (List.range' b n).all p = true) : (List.range' a (m + n)).all p = true := by
  subst hb
  have e : List.range' a (m + n) = List.range' a m ++ List.range' (a + m) n := by simp
  rw [e, List.all_append, h, k]
  rfl
theorem la1 : (List.range' 0 120).all (rowFine Tryz.prog) = true := all_more (p := rowFine Tryz.prog) (a := 0) (m := 60) (n := 60) (b := 60) lo0 rfl lo1
theorem la2 : (List.range' 0 180).all (rowFine Tryz.prog) = true := all_more (p := rowFine Tryz.prog) (a := 0) (m := 120) (n := 60) (b := 120) la1 rfl lo2
theorem la3 : (List.range' 0 240).all (rowFine Tryz.prog) = true := all_more (p := rowFine Tryz.prog) (a := 0) (m := 180) (n := 60) (b := 180) la2 rfl lo3
theorem la4 : (List.range' 0 300).all (rowFine Tryz.prog) = true := all_more (p := rowFine Tryz.prog) (a := 0) (m := 240) (n := 60) (b := 240) la3 rfl lo4
theorem la5 : (List.range' 0 360).all (rowFine Tryz.prog) = true := all_more (p := rowFine Tryz.prog) (a := 0) (m := 300) (n := 60) (b := 300) la4 rfl lo5
theorem la6 : (List.range' 0 420).all (rowFine Tryz.prog) = true := all_more (p := rowFine Tryz.prog) (a := 0) (m := 360) (n := 60) (b := 360) la5 rfl lo6
theorem la7 : (List.range' 0 480).all (rowFine Tryz.prog) = true := all_more (p := rowFine Tryz.prog) (a := 0) (m := 420) (n := 60) (b := 420) la6 rfl lo7
theorem la8 : (List.range' 0 540).all (rowFine Tryz.prog) = true := all_more (p := rowFine Tryz.prog) (a := 0) (m := 480) (n := 60) (b := 480) la7 rfl lo8
theorem la9 : (List.range' 0 600).all (rowFine Tryz.prog) = true := all_more (p := rowFine Tryz.prog) (a := 0) (m := 540) (n := 60) (b := 540) la8 rfl lo9
theorem la10 : (List.range' 0 660).all (rowFine Tryz.prog) = true := all_more (p := rowFine Tryz.prog) (a := 0) (m := 600) (n := 60) (b := 600) la9 rfl lo10
theorem la11 : (List.range' 0 720).all (rowFine Tryz.prog) = true := all_more (p := rowFine Tryz.prog) (a := 0) (m := 660) (n := 60) (b := 660) la10 rfl lo11
theorem la12 : (List.range' 0 780).all (rowFine Tryz.prog) = true := all_more (p := rowFine Tryz.prog) (a := 0) (m := 720) (n := 60) (b := 720) la11 rfl lo12
theorem la13 : (List.range' 0 807).all (rowFine Tryz.prog) = true := all_more (p := rowFine Tryz.prog) (a := 0) (m := 780) (n := 27) (b := 780) la12 rfl lo13
theorem loA : (List.range' 0 807).all (rowFine Tryz.prog) = true := la13
set_option maxRecDepth 10000000 in
theorem loS : Tryz.prog.types.size = 807 := by kernel_rfl
set_option maxRecDepth 10000000 in
theorem loG : Tryz.prog.globals.all (fun g => decide (g.type < Tryz.prog.types.size)) = true := by kernel_rfl
set_option maxRecDepth 10000000 in
theorem loF : Tryz.prog.funcs.all (fun f => f.params.all fun t => decide (t < 807)) = true := by kernel_rfl
theorem laidOut : laidOutB Tryz.prog = true := by
  unfold laidOutB
  have h1 := loA
  have h2 := loG
  have h3 := loF
  rw [loS] at h2
  rw [List.range_eq_range', loS, h1, h2, h3]
  rfl
end Go.Proofs.YtmcigdddcknmmaaGreat
