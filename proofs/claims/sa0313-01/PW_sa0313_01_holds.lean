import PyProof.Rows.All
import Wide.All
import OpenK.AllK
import Wide.FinOn
import Lean
import PySem.Challenge.RW_sa0313_01
open PySem PySem.W PyProof.Rows PySem.Spec PySem.Calls
set_option Elab.async false
set_option maxRecDepth 100000
set_option linter.unusedVariables false
set_option rowWalk.seconds 0
namespace Mine
-- PART 00a: the head: the objects that the top leaves, written out by a program of mine (wip/head/Gen.lean, wip/head/mkhead.py)
namespace hd
def kidA : Stmt → Arguments
  | .FunctionDef _ a _ _ _ _ _ _ _ _ => a
  | _ => default
def kidB : Stmt → List Stmt
  | .FunctionDef _ _ b _ _ _ _ _ _ _ => b
  | .ClassDef _ _ _ b _ _ _ _ _ _ _ => b
  | _ => default
def kidC : Stmt → Scope
  | .FunctionDef _ _ _ _ _ _ c _ _ _ => c
  | _ => default
def stOf (i j : Nat) (m : Bool) : Stmt := match m with
  | false => PySem.Challenge.pw_sa0313_01.main.body.getD i default
  | true => (kidB (PySem.Challenge.pw_sa0313_01.main.body.getD i default)).getD j default
noncomputable def sA_0_0_false : Arguments := by
  refine (?f : (K : Arguments) → K = kidA (stOf 0 0 false) → Arguments) ?K ?h
  case f => exact fun K _ => K
  case h => (conv => rhs; whnf)
noncomputable def sB_0_0_false : List Stmt := by
  refine (?f : (K : List Stmt) → K = kidB (stOf 0 0 false) → List Stmt) ?K ?h
  case f => exact fun K _ => K
  case h => (conv => rhs; whnf)
noncomputable def sC_0_0_false : Scope := by
  refine (?f : (K : Scope) → K = kidC (stOf 0 0 false) → Scope) ?K ?h
  case f => exact fun K _ => K
  case h => (conv => rhs; whnf)
noncomputable def sA_2_0_true : Arguments := by
  refine (?f : (K : Arguments) → K = kidA (stOf 2 0 true) → Arguments) ?K ?h
  case f => exact fun K _ => K
  case h => (conv => rhs; whnf)
noncomputable def sB_2_0_true : List Stmt := by
  refine (?f : (K : List Stmt) → K = kidB (stOf 2 0 true) → List Stmt) ?K ?h
  case f => exact fun K _ => K
  case h => (conv => rhs; whnf)
noncomputable def sC_2_0_true : Scope := by
  refine (?f : (K : Scope) → K = kidC (stOf 2 0 true) → Scope) ?K ?h
  case f => exact fun K _ => K
  case h => (conv => rhs; whnf)
noncomputable def sA_9_0_true : Arguments := by
  refine (?f : (K : Arguments) → K = kidA (stOf 9 0 true) → Arguments) ?K ?h
  case f => exact fun K _ => K
  case h => (conv => rhs; whnf)
noncomputable def sB_9_0_true : List Stmt := by
  refine (?f : (K : List Stmt) → K = kidB (stOf 9 0 true) → List Stmt) ?K ?h
  case f => exact fun K _ => K
  case h => (conv => rhs; whnf)
noncomputable def sC_9_0_true : Scope := by
  refine (?f : (K : Scope) → K = kidC (stOf 9 0 true) → Scope) ?K ?h
  case f => exact fun K _ => K
  case h => (conv => rhs; whnf)
noncomputable def sA_10_0_false : Arguments := by
  refine (?f : (K : Arguments) → K = kidA (stOf 10 0 false) → Arguments) ?K ?h
  case f => exact fun K _ => K
  case h => (conv => rhs; whnf)
noncomputable def sB_10_0_false : List Stmt := by
  refine (?f : (K : List Stmt) → K = kidB (stOf 10 0 false) → List Stmt) ?K ?h
  case f => exact fun K _ => K
  case h => (conv => rhs; whnf)
noncomputable def sC_10_0_false : Scope := by
  refine (?f : (K : Scope) → K = kidC (stOf 10 0 false) → Scope) ?K ?h
  case f => exact fun K _ => K
  case h => (conv => rhs; whnf)
noncomputable def sA_14_0_true : Arguments := by
  refine (?f : (K : Arguments) → K = kidA (stOf 14 0 true) → Arguments) ?K ?h
  case f => exact fun K _ => K
  case h => (conv => rhs; whnf)
noncomputable def sB_14_0_true : List Stmt := by
  refine (?f : (K : List Stmt) → K = kidB (stOf 14 0 true) → List Stmt) ?K ?h
  case f => exact fun K _ => K
  case h => (conv => rhs; whnf)
noncomputable def sC_14_0_true : Scope := by
  refine (?f : (K : Scope) → K = kidC (stOf 14 0 true) → Scope) ?K ?h
  case f => exact fun K _ => K
  case h => (conv => rhs; whnf)
noncomputable def sA_14_1_true : Arguments := by
  refine (?f : (K : Arguments) → K = kidA (stOf 14 1 true) → Arguments) ?K ?h
  case f => exact fun K _ => K
  case h => (conv => rhs; whnf)
noncomputable def sB_14_1_true : List Stmt := by
  refine (?f : (K : List Stmt) → K = kidB (stOf 14 1 true) → List Stmt) ?K ?h
  case f => exact fun K _ => K
  case h => (conv => rhs; whnf)
noncomputable def sC_14_1_true : Scope := by
  refine (?f : (K : Scope) → K = kidC (stOf 14 1 true) → Scope) ?K ?h
  case f => exact fun K _ => K
  case h => (conv => rhs; whnf)
noncomputable def sA_14_2_true : Arguments := by
  refine (?f : (K : Arguments) → K = kidA (stOf 14 2 true) → Arguments) ?K ?h
  case f => exact fun K _ => K
  case h => (conv => rhs; whnf)
noncomputable def sB_14_2_true : List Stmt := by
  refine (?f : (K : List Stmt) → K = kidB (stOf 14 2 true) → List Stmt) ?K ?h
  case f => exact fun K _ => K
  case h => (conv => rhs; whnf)
noncomputable def sC_14_2_true : Scope := by
  refine (?f : (K : Scope) → K = kidC (stOf 14 2 true) → Scope) ?K ?h
  case f => exact fun K _ => K
  case h => (conv => rhs; whnf)
noncomputable def sA_17_0_true : Arguments := by
  refine (?f : (K : Arguments) → K = kidA (stOf 17 0 true) → Arguments) ?K ?h
  case f => exact fun K _ => K
  case h => (conv => rhs; whnf)
noncomputable def sB_17_0_true : List Stmt := by
  refine (?f : (K : List Stmt) → K = kidB (stOf 17 0 true) → List Stmt) ?K ?h
  case f => exact fun K _ => K
  case h => (conv => rhs; whnf)
noncomputable def sC_17_0_true : Scope := by
  refine (?f : (K : Scope) → K = kidC (stOf 17 0 true) → Scope) ?K ?h
  case f => exact fun K _ => K
  case h => (conv => rhs; whnf)
noncomputable def sA_19_0_true : Arguments := by
  refine (?f : (K : Arguments) → K = kidA (stOf 19 0 true) → Arguments) ?K ?h
  case f => exact fun K _ => K
  case h => (conv => rhs; whnf)
noncomputable def sB_19_0_true : List Stmt := by
  refine (?f : (K : List Stmt) → K = kidB (stOf 19 0 true) → List Stmt) ?K ?h
  case f => exact fun K _ => K
  case h => (conv => rhs; whnf)
noncomputable def sC_19_0_true : Scope := by
  refine (?f : (K : Scope) → K = kidC (stOf 19 0 true) → Scope) ?K ?h
  case f => exact fun K _ => K
  case h => (conv => rhs; whnf)
noncomputable def sA_20_0_false : Arguments := by
  refine (?f : (K : Arguments) → K = kidA (stOf 20 0 false) → Arguments) ?K ?h
  case f => exact fun K _ => K
  case h => (conv => rhs; whnf)
noncomputable def sB_20_0_false : List Stmt := by
  refine (?f : (K : List Stmt) → K = kidB (stOf 20 0 false) → List Stmt) ?K ?h
  case f => exact fun K _ => K
  case h => (conv => rhs; whnf)
noncomputable def sC_20_0_false : Scope := by
  refine (?f : (K : Scope) → K = kidC (stOf 20 0 false) → Scope) ?K ?h
  case f => exact fun K _ => K
  case h => (conv => rhs; whnf)
noncomputable def sA_21_0_false : Arguments := by
  refine (?f : (K : Arguments) → K = kidA (stOf 21 0 false) → Arguments) ?K ?h
  case f => exact fun K _ => K
  case h => (conv => rhs; whnf)
noncomputable def sB_21_0_false : List Stmt := by
  refine (?f : (K : List Stmt) → K = kidB (stOf 21 0 false) → List Stmt) ?K ?h
  case f => exact fun K _ => K
  case h => (conv => rhs; whnf)
noncomputable def sC_21_0_false : Scope := by
  refine (?f : (K : Scope) → K = kidC (stOf 21 0 false) → Scope) ?K ?h
  case f => exact fun K _ => K
  case h => (conv => rhs; whnf)
noncomputable def sA_22_0_false : Arguments := by
  refine (?f : (K : Arguments) → K = kidA (stOf 22 0 false) → Arguments) ?K ?h
  case f => exact fun K _ => K
  case h => (conv => rhs; whnf)
noncomputable def sB_22_0_false : List Stmt := by
  refine (?f : (K : List Stmt) → K = kidB (stOf 22 0 false) → List Stmt) ?K ?h
  case f => exact fun K _ => K
  case h => (conv => rhs; whnf)
noncomputable def sC_22_0_false : Scope := by
  refine (?f : (K : Scope) → K = kidC (stOf 22 0 false) → Scope) ?K ?h
  case f => exact fun K _ => K
  case h => (conv => rhs; whnf)
noncomputable def sA_24_0_true : Arguments := by
  refine (?f : (K : Arguments) → K = kidA (stOf 24 0 true) → Arguments) ?K ?h
  case f => exact fun K _ => K
  case h => (conv => rhs; whnf)
noncomputable def sB_24_0_true : List Stmt := by
  refine (?f : (K : List Stmt) → K = kidB (stOf 24 0 true) → List Stmt) ?K ?h
  case f => exact fun K _ => K
  case h => (conv => rhs; whnf)
noncomputable def sC_24_0_true : Scope := by
  refine (?f : (K : Scope) → K = kidC (stOf 24 0 true) → Scope) ?K ?h
  case f => exact fun K _ => K
  case h => (conv => rhs; whnf)
noncomputable def sA_25_0_false : Arguments := by
  refine (?f : (K : Arguments) → K = kidA (stOf 25 0 false) → Arguments) ?K ?h
  case f => exact fun K _ => K
  case h => (conv => rhs; whnf)
noncomputable def sB_25_0_false : List Stmt := by
  refine (?f : (K : List Stmt) → K = kidB (stOf 25 0 false) → List Stmt) ?K ?h
  case f => exact fun K _ => K
  case h => (conv => rhs; whnf)
noncomputable def sC_25_0_false : Scope := by
  refine (?f : (K : Scope) → K = kidC (stOf 25 0 false) → Scope) ?K ?h
  case f => exact fun K _ => K
  case h => (conv => rhs; whnf)
noncomputable def sA_26_0_false : Arguments := by
  refine (?f : (K : Arguments) → K = kidA (stOf 26 0 false) → Arguments) ?K ?h
  case f => exact fun K _ => K
  case h => (conv => rhs; whnf)
noncomputable def sB_26_0_false : List Stmt := by
  refine (?f : (K : List Stmt) → K = kidB (stOf 26 0 false) → List Stmt) ?K ?h
  case f => exact fun K _ => K
  case h => (conv => rhs; whnf)
noncomputable def sC_26_0_false : Scope := by
  refine (?f : (K : Scope) → K = kidC (stOf 26 0 false) → Scope) ?K ?h
  case f => exact fun K _ => K
  case h => (conv => rhs; whnf)
noncomputable def sA_28_0_true : Arguments := by
  refine (?f : (K : Arguments) → K = kidA (stOf 28 0 true) → Arguments) ?K ?h
  case f => exact fun K _ => K
  case h => (conv => rhs; whnf)
noncomputable def sB_28_0_true : List Stmt := by
  refine (?f : (K : List Stmt) → K = kidB (stOf 28 0 true) → List Stmt) ?K ?h
  case f => exact fun K _ => K
  case h => (conv => rhs; whnf)
noncomputable def sC_28_0_true : Scope := by
  refine (?f : (K : Scope) → K = kidC (stOf 28 0 true) → Scope) ?K ?h
  case f => exact fun K _ => K
  case h => (conv => rhs; whnf)
noncomputable def sA_28_1_true : Arguments := by
  refine (?f : (K : Arguments) → K = kidA (stOf 28 1 true) → Arguments) ?K ?h
  case f => exact fun K _ => K
  case h => (conv => rhs; whnf)
noncomputable def sB_28_1_true : List Stmt := by
  refine (?f : (K : List Stmt) → K = kidB (stOf 28 1 true) → List Stmt) ?K ?h
  case f => exact fun K _ => K
  case h => (conv => rhs; whnf)
noncomputable def sC_28_1_true : Scope := by
  refine (?f : (K : Scope) → K = kidC (stOf 28 1 true) → Scope) ?K ?h
  case f => exact fun K _ => K
  case h => (conv => rhs; whnf)
noncomputable def sA_28_2_true : Arguments := by
  refine (?f : (K : Arguments) → K = kidA (stOf 28 2 true) → Arguments) ?K ?h
  case f => exact fun K _ => K
  case h => (conv => rhs; whnf)
noncomputable def sB_28_2_true : List Stmt := by
  refine (?f : (K : List Stmt) → K = kidB (stOf 28 2 true) → List Stmt) ?K ?h
  case f => exact fun K _ => K
  case h => (conv => rhs; whnf)
noncomputable def sC_28_2_true : Scope := by
  refine (?f : (K : Scope) → K = kidC (stOf 28 2 true) → Scope) ?K ?h
  case f => exact fun K _ => K
  case h => (conv => rhs; whnf)
noncomputable def sA_28_3_true : Arguments := by
  refine (?f : (K : Arguments) → K = kidA (stOf 28 3 true) → Arguments) ?K ?h
  case f => exact fun K _ => K
  case h => (conv => rhs; whnf)
noncomputable def sB_28_3_true : List Stmt := by
  refine (?f : (K : List Stmt) → K = kidB (stOf 28 3 true) → List Stmt) ?K ?h
  case f => exact fun K _ => K
  case h => (conv => rhs; whnf)
noncomputable def sC_28_3_true : Scope := by
  refine (?f : (K : Scope) → K = kidC (stOf 28 3 true) → Scope) ?K ?h
  case f => exact fun K _ => K
  case h => (conv => rhs; whnf)
noncomputable def sA_28_4_true : Arguments := by
  refine (?f : (K : Arguments) → K = kidA (stOf 28 4 true) → Arguments) ?K ?h
  case f => exact fun K _ => K
  case h => (conv => rhs; whnf)
noncomputable def sB_28_4_true : List Stmt := by
  refine (?f : (K : List Stmt) → K = kidB (stOf 28 4 true) → List Stmt) ?K ?h
  case f => exact fun K _ => K
  case h => (conv => rhs; whnf)
noncomputable def sC_28_4_true : Scope := by
  refine (?f : (K : Scope) → K = kidC (stOf 28 4 true) → Scope) ?K ?h
  case f => exact fun K _ => K
  case h => (conv => rhs; whnf)
noncomputable def sA_28_5_true : Arguments := by
  refine (?f : (K : Arguments) → K = kidA (stOf 28 5 true) → Arguments) ?K ?h
  case f => exact fun K _ => K
  case h => (conv => rhs; whnf)
noncomputable def sB_28_5_true : List Stmt := by
  refine (?f : (K : List Stmt) → K = kidB (stOf 28 5 true) → List Stmt) ?K ?h
  case f => exact fun K _ => K
  case h => (conv => rhs; whnf)
noncomputable def sC_28_5_true : Scope := by
  refine (?f : (K : Scope) → K = kidC (stOf 28 5 true) → Scope) ?K ?h
  case f => exact fun K _ => K
  case h => (conv => rhs; whnf)
noncomputable def sA_28_6_true : Arguments := by
  refine (?f : (K : Arguments) → K = kidA (stOf 28 6 true) → Arguments) ?K ?h
  case f => exact fun K _ => K
  case h => (conv => rhs; whnf)
noncomputable def sB_28_6_true : List Stmt := by
  refine (?f : (K : List Stmt) → K = kidB (stOf 28 6 true) → List Stmt) ?K ?h
  case f => exact fun K _ => K
  case h => (conv => rhs; whnf)
noncomputable def sC_28_6_true : Scope := by
  refine (?f : (K : Scope) → K = kidC (stOf 28 6 true) → Scope) ?K ?h
  case f => exact fun K _ => K
  case h => (conv => rhs; whnf)
noncomputable def sA_28_7_true : Arguments := by
  refine (?f : (K : Arguments) → K = kidA (stOf 28 7 true) → Arguments) ?K ?h
  case f => exact fun K _ => K
  case h => (conv => rhs; whnf)
noncomputable def sB_28_7_true : List Stmt := by
  refine (?f : (K : List Stmt) → K = kidB (stOf 28 7 true) → List Stmt) ?K ?h
  case f => exact fun K _ => K
  case h => (conv => rhs; whnf)
noncomputable def sC_28_7_true : Scope := by
  refine (?f : (K : Scope) → K = kidC (stOf 28 7 true) → Scope) ?K ?h
  case f => exact fun K _ => K
  case h => (conv => rhs; whnf)
noncomputable def sA_28_8_true : Arguments := by
  refine (?f : (K : Arguments) → K = kidA (stOf 28 8 true) → Arguments) ?K ?h
  case f => exact fun K _ => K
  case h => (conv => rhs; whnf)
noncomputable def sB_28_8_true : List Stmt := by
  refine (?f : (K : List Stmt) → K = kidB (stOf 28 8 true) → List Stmt) ?K ?h
  case f => exact fun K _ => K
  case h => (conv => rhs; whnf)
noncomputable def sC_28_8_true : Scope := by
  refine (?f : (K : Scope) → K = kidC (stOf 28 8 true) → Scope) ?K ?h
  case f => exact fun K _ => K
  case h => (conv => rhs; whnf)
noncomputable def sA_28_9_true : Arguments := by
  refine (?f : (K : Arguments) → K = kidA (stOf 28 9 true) → Arguments) ?K ?h
  case f => exact fun K _ => K
  case h => (conv => rhs; whnf)
noncomputable def sB_28_9_true : List Stmt := by
  refine (?f : (K : List Stmt) → K = kidB (stOf 28 9 true) → List Stmt) ?K ?h
  case f => exact fun K _ => K
  case h => (conv => rhs; whnf)
noncomputable def sC_28_9_true : Scope := by
  refine (?f : (K : Scope) → K = kidC (stOf 28 9 true) → Scope) ?K ?h
  case f => exact fun K _ => K
  case h => (conv => rhs; whnf)
noncomputable def sA_28_10_true : Arguments := by
  refine (?f : (K : Arguments) → K = kidA (stOf 28 10 true) → Arguments) ?K ?h
  case f => exact fun K _ => K
  case h => (conv => rhs; whnf)
noncomputable def sB_28_10_true : List Stmt := by
  refine (?f : (K : List Stmt) → K = kidB (stOf 28 10 true) → List Stmt) ?K ?h
  case f => exact fun K _ => K
  case h => (conv => rhs; whnf)
noncomputable def sC_28_10_true : Scope := by
  refine (?f : (K : Scope) → K = kidC (stOf 28 10 true) → Scope) ?K ?h
  case f => exact fun K _ => K
  case h => (conv => rhs; whnf)
noncomputable def sA_28_11_true : Arguments := by
  refine (?f : (K : Arguments) → K = kidA (stOf 28 11 true) → Arguments) ?K ?h
  case f => exact fun K _ => K
  case h => (conv => rhs; whnf)
noncomputable def sB_28_11_true : List Stmt := by
  refine (?f : (K : List Stmt) → K = kidB (stOf 28 11 true) → List Stmt) ?K ?h
  case f => exact fun K _ => K
  case h => (conv => rhs; whnf)
noncomputable def sC_28_11_true : Scope := by
  refine (?f : (K : Scope) → K = kidC (stOf 28 11 true) → Scope) ?K ?h
  case f => exact fun K _ => K
  case h => (conv => rhs; whnf)
noncomputable def sA_28_12_true : Arguments := by
  refine (?f : (K : Arguments) → K = kidA (stOf 28 12 true) → Arguments) ?K ?h
  case f => exact fun K _ => K
  case h => (conv => rhs; whnf)
noncomputable def sB_28_12_true : List Stmt := by
  refine (?f : (K : List Stmt) → K = kidB (stOf 28 12 true) → List Stmt) ?K ?h
  case f => exact fun K _ => K
  case h => (conv => rhs; whnf)
noncomputable def sC_28_12_true : Scope := by
  refine (?f : (K : Scope) → K = kidC (stOf 28 12 true) → Scope) ?K ?h
  case f => exact fun K _ => K
  case h => (conv => rhs; whnf)
noncomputable def sA_28_13_true : Arguments := by
  refine (?f : (K : Arguments) → K = kidA (stOf 28 13 true) → Arguments) ?K ?h
  case f => exact fun K _ => K
  case h => (conv => rhs; whnf)
noncomputable def sB_28_13_true : List Stmt := by
  refine (?f : (K : List Stmt) → K = kidB (stOf 28 13 true) → List Stmt) ?K ?h
  case f => exact fun K _ => K
  case h => (conv => rhs; whnf)
noncomputable def sC_28_13_true : Scope := by
  refine (?f : (K : Scope) → K = kidC (stOf 28 13 true) → Scope) ?K ?h
  case f => exact fun K _ => K
  case h => (conv => rhs; whnf)
noncomputable def sA_28_14_true : Arguments := by
  refine (?f : (K : Arguments) → K = kidA (stOf 28 14 true) → Arguments) ?K ?h
  case f => exact fun K _ => K
  case h => (conv => rhs; whnf)
noncomputable def sB_28_14_true : List Stmt := by
  refine (?f : (K : List Stmt) → K = kidB (stOf 28 14 true) → List Stmt) ?K ?h
  case f => exact fun K _ => K
  case h => (conv => rhs; whnf)
noncomputable def sC_28_14_true : Scope := by
  refine (?f : (K : Scope) → K = kidC (stOf 28 14 true) → Scope) ?K ?h
  case f => exact fun K _ => K
  case h => (conv => rhs; whnf)
noncomputable def sA_28_15_true : Arguments := by
  refine (?f : (K : Arguments) → K = kidA (stOf 28 15 true) → Arguments) ?K ?h
  case f => exact fun K _ => K
  case h => (conv => rhs; whnf)
noncomputable def sB_28_15_true : List Stmt := by
  refine (?f : (K : List Stmt) → K = kidB (stOf 28 15 true) → List Stmt) ?K ?h
  case f => exact fun K _ => K
  case h => (conv => rhs; whnf)
noncomputable def sC_28_15_true : Scope := by
  refine (?f : (K : Scope) → K = kidC (stOf 28 15 true) → Scope) ?K ?h
  case f => exact fun K _ => K
  case h => (conv => rhs; whnf)
noncomputable def sA_28_16_true : Arguments := by
  refine (?f : (K : Arguments) → K = kidA (stOf 28 16 true) → Arguments) ?K ?h
  case f => exact fun K _ => K
  case h => (conv => rhs; whnf)
noncomputable def sB_28_16_true : List Stmt := by
  refine (?f : (K : List Stmt) → K = kidB (stOf 28 16 true) → List Stmt) ?K ?h
  case f => exact fun K _ => K
  case h => (conv => rhs; whnf)
noncomputable def sC_28_16_true : Scope := by
  refine (?f : (K : Scope) → K = kidC (stOf 28 16 true) → Scope) ?K ?h
  case f => exact fun K _ => K
  case h => (conv => rhs; whnf)
noncomputable def sA_28_17_true : Arguments := by
  refine (?f : (K : Arguments) → K = kidA (stOf 28 17 true) → Arguments) ?K ?h
  case f => exact fun K _ => K
  case h => (conv => rhs; whnf)
noncomputable def sB_28_17_true : List Stmt := by
  refine (?f : (K : List Stmt) → K = kidB (stOf 28 17 true) → List Stmt) ?K ?h
  case f => exact fun K _ => K
  case h => (conv => rhs; whnf)
noncomputable def sC_28_17_true : Scope := by
  refine (?f : (K : Scope) → K = kidC (stOf 28 17 true) → Scope) ?K ?h
  case f => exact fun K _ => K
  case h => (conv => rhs; whnf)
noncomputable def sA_28_18_true : Arguments := by
  refine (?f : (K : Arguments) → K = kidA (stOf 28 18 true) → Arguments) ?K ?h
  case f => exact fun K _ => K
  case h => (conv => rhs; whnf)
noncomputable def sB_28_18_true : List Stmt := by
  refine (?f : (K : List Stmt) → K = kidB (stOf 28 18 true) → List Stmt) ?K ?h
  case f => exact fun K _ => K
  case h => (conv => rhs; whnf)
noncomputable def sC_28_18_true : Scope := by
  refine (?f : (K : Scope) → K = kidC (stOf 28 18 true) → Scope) ?K ?h
  case f => exact fun K _ => K
  case h => (conv => rhs; whnf)
noncomputable def sA_28_19_true : Arguments := by
  refine (?f : (K : Arguments) → K = kidA (stOf 28 19 true) → Arguments) ?K ?h
  case f => exact fun K _ => K
  case h => (conv => rhs; whnf)
noncomputable def sB_28_19_true : List Stmt := by
  refine (?f : (K : List Stmt) → K = kidB (stOf 28 19 true) → List Stmt) ?K ?h
  case f => exact fun K _ => K
  case h => (conv => rhs; whnf)
noncomputable def sC_28_19_true : Scope := by
  refine (?f : (K : Scope) → K = kidC (stOf 28 19 true) → Scope) ?K ?h
  case f => exact fun K _ => K
  case h => (conv => rhs; whnf)
noncomputable def sA_28_20_true : Arguments := by
  refine (?f : (K : Arguments) → K = kidA (stOf 28 20 true) → Arguments) ?K ?h
  case f => exact fun K _ => K
  case h => (conv => rhs; whnf)
noncomputable def sB_28_20_true : List Stmt := by
  refine (?f : (K : List Stmt) → K = kidB (stOf 28 20 true) → List Stmt) ?K ?h
  case f => exact fun K _ => K
  case h => (conv => rhs; whnf)
noncomputable def sC_28_20_true : Scope := by
  refine (?f : (K : Scope) → K = kidC (stOf 28 20 true) → Scope) ?K ?h
  case f => exact fun K _ => K
  case h => (conv => rhs; whnf)
noncomputable def sA_28_21_true : Arguments := by
  refine (?f : (K : Arguments) → K = kidA (stOf 28 21 true) → Arguments) ?K ?h
  case f => exact fun K _ => K
  case h => (conv => rhs; whnf)
noncomputable def sB_28_21_true : List Stmt := by
  refine (?f : (K : List Stmt) → K = kidB (stOf 28 21 true) → List Stmt) ?K ?h
  case f => exact fun K _ => K
  case h => (conv => rhs; whnf)
noncomputable def sC_28_21_true : Scope := by
  refine (?f : (K : Scope) → K = kidC (stOf 28 21 true) → Scope) ?K ?h
  case f => exact fun K _ => K
  case h => (conv => rhs; whnf)
noncomputable def sA_28_22_true : Arguments := by
  refine (?f : (K : Arguments) → K = kidA (stOf 28 22 true) → Arguments) ?K ?h
  case f => exact fun K _ => K
  case h => (conv => rhs; whnf)
noncomputable def sB_28_22_true : List Stmt := by
  refine (?f : (K : List Stmt) → K = kidB (stOf 28 22 true) → List Stmt) ?K ?h
  case f => exact fun K _ => K
  case h => (conv => rhs; whnf)
noncomputable def sC_28_22_true : Scope := by
  refine (?f : (K : Scope) → K = kidC (stOf 28 22 true) → Scope) ?K ?h
  case f => exact fun K _ => K
  case h => (conv => rhs; whnf)
noncomputable def sA_28_23_true : Arguments := by
  refine (?f : (K : Arguments) → K = kidA (stOf 28 23 true) → Arguments) ?K ?h
  case f => exact fun K _ => K
  case h => (conv => rhs; whnf)
noncomputable def sB_28_23_true : List Stmt := by
  refine (?f : (K : List Stmt) → K = kidB (stOf 28 23 true) → List Stmt) ?K ?h
  case f => exact fun K _ => K
  case h => (conv => rhs; whnf)
noncomputable def sC_28_23_true : Scope := by
  refine (?f : (K : Scope) → K = kidC (stOf 28 23 true) → Scope) ?K ?h
  case f => exact fun K _ => K
  case h => (conv => rhs; whnf)
noncomputable def sA_28_24_true : Arguments := by
  refine (?f : (K : Arguments) → K = kidA (stOf 28 24 true) → Arguments) ?K ?h
  case f => exact fun K _ => K
  case h => (conv => rhs; whnf)
noncomputable def sB_28_24_true : List Stmt := by
  refine (?f : (K : List Stmt) → K = kidB (stOf 28 24 true) → List Stmt) ?K ?h
  case f => exact fun K _ => K
  case h => (conv => rhs; whnf)
noncomputable def sC_28_24_true : Scope := by
  refine (?f : (K : Scope) → K = kidC (stOf 28 24 true) → Scope) ?K ?h
  case f => exact fun K _ => K
  case h => (conv => rhs; whnf)
noncomputable def sA_28_25_true : Arguments := by
  refine (?f : (K : Arguments) → K = kidA (stOf 28 25 true) → Arguments) ?K ?h
  case f => exact fun K _ => K
  case h => (conv => rhs; whnf)
noncomputable def sB_28_25_true : List Stmt := by
  refine (?f : (K : List Stmt) → K = kidB (stOf 28 25 true) → List Stmt) ?K ?h
  case f => exact fun K _ => K
  case h => (conv => rhs; whnf)
noncomputable def sC_28_25_true : Scope := by
  refine (?f : (K : Scope) → K = kidC (stOf 28 25 true) → Scope) ?K ?h
  case f => exact fun K _ => K
  case h => (conv => rhs; whnf)
noncomputable def sA_28_26_true : Arguments := by
  refine (?f : (K : Arguments) → K = kidA (stOf 28 26 true) → Arguments) ?K ?h
  case f => exact fun K _ => K
  case h => (conv => rhs; whnf)
noncomputable def sB_28_26_true : List Stmt := by
  refine (?f : (K : List Stmt) → K = kidB (stOf 28 26 true) → List Stmt) ?K ?h
  case f => exact fun K _ => K
  case h => (conv => rhs; whnf)
noncomputable def sC_28_26_true : Scope := by
  refine (?f : (K : Scope) → K = kidC (stOf 28 26 true) → Scope) ?K ?h
  case f => exact fun K _ => K
  case h => (conv => rhs; whnf)
noncomputable def sA_28_27_true : Arguments := by
  refine (?f : (K : Arguments) → K = kidA (stOf 28 27 true) → Arguments) ?K ?h
  case f => exact fun K _ => K
  case h => (conv => rhs; whnf)
noncomputable def sB_28_27_true : List Stmt := by
  refine (?f : (K : List Stmt) → K = kidB (stOf 28 27 true) → List Stmt) ?K ?h
  case f => exact fun K _ => K
  case h => (conv => rhs; whnf)
noncomputable def sC_28_27_true : Scope := by
  refine (?f : (K : Scope) → K = kidC (stOf 28 27 true) → Scope) ?K ?h
  case f => exact fun K _ => K
  case h => (conv => rhs; whnf)
noncomputable def sA_28_28_true : Arguments := by
  refine (?f : (K : Arguments) → K = kidA (stOf 28 28 true) → Arguments) ?K ?h
  case f => exact fun K _ => K
  case h => (conv => rhs; whnf)
noncomputable def sB_28_28_true : List Stmt := by
  refine (?f : (K : List Stmt) → K = kidB (stOf 28 28 true) → List Stmt) ?K ?h
  case f => exact fun K _ => K
  case h => (conv => rhs; whnf)
noncomputable def sC_28_28_true : Scope := by
  refine (?f : (K : Scope) → K = kidC (stOf 28 28 true) → Scope) ?K ?h
  case f => exact fun K _ => K
  case h => (conv => rhs; whnf)
noncomputable def sA_28_29_true : Arguments := by
  refine (?f : (K : Arguments) → K = kidA (stOf 28 29 true) → Arguments) ?K ?h
  case f => exact fun K _ => K
  case h => (conv => rhs; whnf)
noncomputable def sB_28_29_true : List Stmt := by
  refine (?f : (K : List Stmt) → K = kidB (stOf 28 29 true) → List Stmt) ?K ?h
  case f => exact fun K _ => K
  case h => (conv => rhs; whnf)
noncomputable def sC_28_29_true : Scope := by
  refine (?f : (K : Scope) → K = kidC (stOf 28 29 true) → Scope) ?K ?h
  case f => exact fun K _ => K
  case h => (conv => rhs; whnf)
noncomputable def sA_28_30_true : Arguments := by
  refine (?f : (K : Arguments) → K = kidA (stOf 28 30 true) → Arguments) ?K ?h
  case f => exact fun K _ => K
  case h => (conv => rhs; whnf)
noncomputable def sB_28_30_true : List Stmt := by
  refine (?f : (K : List Stmt) → K = kidB (stOf 28 30 true) → List Stmt) ?K ?h
  case f => exact fun K _ => K
  case h => (conv => rhs; whnf)
noncomputable def sC_28_30_true : Scope := by
  refine (?f : (K : Scope) → K = kidC (stOf 28 30 true) → Scope) ?K ?h
  case f => exact fun K _ => K
  case h => (conv => rhs; whnf)
noncomputable def sA_30_0_false : Arguments := by
  refine (?f : (K : Arguments) → K = kidA (stOf 30 0 false) → Arguments) ?K ?h
  case f => exact fun K _ => K
  case h => (conv => rhs; whnf)
noncomputable def sB_30_0_false : List Stmt := by
  refine (?f : (K : List Stmt) → K = kidB (stOf 30 0 false) → List Stmt) ?K ?h
  case f => exact fun K _ => K
  case h => (conv => rhs; whnf)
noncomputable def sC_30_0_false : Scope := by
  refine (?f : (K : Scope) → K = kidC (stOf 30 0 false) → Scope) ?K ?h
  case f => exact fun K _ => K
  case h => (conv => rhs; whnf)
noncomputable def sA_31_0_false : Arguments := by
  refine (?f : (K : Arguments) → K = kidA (stOf 31 0 false) → Arguments) ?K ?h
  case f => exact fun K _ => K
  case h => (conv => rhs; whnf)
noncomputable def sB_31_0_false : List Stmt := by
  refine (?f : (K : List Stmt) → K = kidB (stOf 31 0 false) → List Stmt) ?K ?h
  case f => exact fun K _ => K
  case h => (conv => rhs; whnf)
noncomputable def sC_31_0_false : Scope := by
  refine (?f : (K : Scope) → K = kidC (stOf 31 0 false) → Scope) ?K ?h
  case f => exact fun K _ => K
  case h => (conv => rhs; whnf)
noncomputable def sA_32_0_false : Arguments := by
  refine (?f : (K : Arguments) → K = kidA (stOf 32 0 false) → Arguments) ?K ?h
  case f => exact fun K _ => K
  case h => (conv => rhs; whnf)
noncomputable def sB_32_0_false : List Stmt := by
  refine (?f : (K : List Stmt) → K = kidB (stOf 32 0 false) → List Stmt) ?K ?h
  case f => exact fun K _ => K
  case h => (conv => rhs; whnf)
noncomputable def sC_32_0_false : Scope := by
  refine (?f : (K : Scope) → K = kidC (stOf 32 0 false) → Scope) ?K ?h
  case f => exact fun K _ => K
  case h => (conv => rhs; whnf)
noncomputable def sA_33_0_false : Arguments := by
  refine (?f : (K : Arguments) → K = kidA (stOf 33 0 false) → Arguments) ?K ?h
  case f => exact fun K _ => K
  case h => (conv => rhs; whnf)
noncomputable def sB_33_0_false : List Stmt := by
  refine (?f : (K : List Stmt) → K = kidB (stOf 33 0 false) → List Stmt) ?K ?h
  case f => exact fun K _ => K
  case h => (conv => rhs; whnf)
noncomputable def sC_33_0_false : Scope := by
  refine (?f : (K : Scope) → K = kidC (stOf 33 0 false) → Scope) ?K ?h
  case f => exact fun K _ => K
  case h => (conv => rhs; whnf)
noncomputable def sA_34_0_false : Arguments := by
  refine (?f : (K : Arguments) → K = kidA (stOf 34 0 false) → Arguments) ?K ?h
  case f => exact fun K _ => K
  case h => (conv => rhs; whnf)
noncomputable def sB_34_0_false : List Stmt := by
  refine (?f : (K : List Stmt) → K = kidB (stOf 34 0 false) → List Stmt) ?K ?h
  case f => exact fun K _ => K
  case h => (conv => rhs; whnf)
noncomputable def sC_34_0_false : Scope := by
  refine (?f : (K : Scope) → K = kidC (stOf 34 0 false) → Scope) ?K ?h
  case f => exact fun K _ => K
  case h => (conv => rhs; whnf)
noncomputable def sA_35_0_false : Arguments := by
  refine (?f : (K : Arguments) → K = kidA (stOf 35 0 false) → Arguments) ?K ?h
  case f => exact fun K _ => K
  case h => (conv => rhs; whnf)
noncomputable def sB_35_0_false : List Stmt := by
  refine (?f : (K : List Stmt) → K = kidB (stOf 35 0 false) → List Stmt) ?K ?h
  case f => exact fun K _ => K
  case h => (conv => rhs; whnf)
noncomputable def sC_35_0_false : Scope := by
  refine (?f : (K : Scope) → K = kidC (stOf 35 0 false) → Scope) ?K ?h
  case f => exact fun K _ => K
  case h => (conv => rhs; whnf)
noncomputable def sA_36_0_false : Arguments := by
  refine (?f : (K : Arguments) → K = kidA (stOf 36 0 false) → Arguments) ?K ?h
  case f => exact fun K _ => K
  case h => (conv => rhs; whnf)
noncomputable def sB_36_0_false : List Stmt := by
  refine (?f : (K : List Stmt) → K = kidB (stOf 36 0 false) → List Stmt) ?K ?h
  case f => exact fun K _ => K
  case h => (conv => rhs; whnf)
noncomputable def sC_36_0_false : Scope := by
  refine (?f : (K : Scope) → K = kidC (stOf 36 0 false) → Scope) ?K ?h
  case f => exact fun K _ => K
  case h => (conv => rhs; whnf)
noncomputable def sA_37_0_false : Arguments := by
  refine (?f : (K : Arguments) → K = kidA (stOf 37 0 false) → Arguments) ?K ?h
  case f => exact fun K _ => K
  case h => (conv => rhs; whnf)
noncomputable def sB_37_0_false : List Stmt := by
  refine (?f : (K : List Stmt) → K = kidB (stOf 37 0 false) → List Stmt) ?K ?h
  case f => exact fun K _ => K
  case h => (conv => rhs; whnf)
noncomputable def sC_37_0_false : Scope := by
  refine (?f : (K : Scope) → K = kidC (stOf 37 0 false) → Scope) ?K ?h
  case f => exact fun K _ => K
  case h => (conv => rhs; whnf)
noncomputable def o2 : Params → Obj := fun P => ⟨.none, Option.none, .dict (List.toArray [⟨PyData.keyHash P (.ofString "type.__subclasses__.Exception.0"), .str (.ofString "type.__subclasses__.Exception.0") (221 : Nat), .int 38 (0 : Nat)⟩, ⟨PyData.keyHash P (.ofString "type.__subclasses__.Exception.n"), .str (.ofString "type.__subclasses__.Exception.n") (222 : Nat), .int 1 (0 : Nat)⟩]) (2 : Nat), (List.toArray [])⟩
noncomputable def o3 : Params → Obj := fun P => ⟨.type "dict", Option.none, .dict (List.toArray ((⟨PyData.keyHash P (.ofString "__name__"), .str (.ofString "__name__") (165 : Nat), .str (.ofString "law_sa0313_01") (803 : Nat)⟩) :: (⟨PyData.keyHash P (.ofString "__doc__"), .str (.ofString "__doc__") (166 : Nat), .none⟩) :: (⟨PyData.keyHash P (.ofString "__package__"), .str (.ofString "__package__") (167 : Nat), .none⟩) :: (⟨PyData.keyHash P (.ofString "__loader__"), .str (.ofString "__loader__") (168 : Nat), .builtin "__main__.__loader__#opaque"⟩) :: (⟨PyData.keyHash P (.ofString "__spec__"), .str (.ofString "__spec__") (169 : Nat), .none⟩) :: (⟨PyData.keyHash P (.ofString "__annotations__"), .str (.ofString "__annotations__") (170 : Nat), .ref (6 : Nat)⟩) :: (⟨PyData.keyHash P (.ofString "__builtins__"), .str (.ofString "__builtins__") (171 : Nat), .ref (4 : Nat)⟩) :: (⟨PyData.keyHash P (.ofString "__file__"), .str (.ofString "__file__") (173 : Nat), .str (.ofString "/claim/cut.py") (172 : Nat)⟩) :: (⟨PyData.keyHash P (.ofString "__cached__"), .str (.ofString "__cached__") (174 : Nat), .none⟩) :: (⟨PyData.keyHash P (.ofString "_wall"), .str (.ofString "_wall") (193 : Nat), .ref (21 : Nat)⟩) :: (⟨PyData.keyHash P (.ofString "MachineFault"), .str (.ofString "MachineFault") (224 : Nat), .ref (38 : Nat)⟩) :: (⟨PyData.keyHash P (.ofString "BlockFault"), .str (.ofString "BlockFault") (240 : Nat), .ref (51 : Nat)⟩) :: (⟨PyData.keyHash P (.ofString "LONG"), .str (.ofString "LONG") (244 : Nat), .int 18446744073709551616 (243 : Nat)⟩) :: (⟨PyData.keyHash P (.ofString "WORD"), .str (.ofString "WORD") (248 : Nat), .int 115792089237316195423570985008687907853269984665640564039457584007913129639936 (247 : Nat)⟩) :: (⟨PyData.keyHash P (.ofString "ADDRESSES"), .str (.ofString "ADDRESSES") (252 : Nat), .int 1461501637330902918203684832716283019655932542976 (251 : Nat)⟩) :: (⟨PyData.keyHash P (.ofString "GWEI"), .str (.ofString "GWEI") (258 : Nat), .int 1000000000 (257 : Nat)⟩) :: (⟨PyData.keyHash P (.ofString "Withdrawal"), .str (.ofString "Withdrawal") (293 : Nat), .ref (70 : Nat)⟩) :: (⟨PyData.keyHash P (.ofString "withdraw"), .str (.ofString "withdraw") (302 : Nat), .ref (81 : Nat)⟩) :: (⟨PyData.keyHash P (.ofString "LEAST_ADDRESS"), .str (.ofString "LEAST_ADDRESS") (308 : Nat), .int 605153021707326989568713251046585937826284568576 (307 : Nat)⟩) :: (⟨PyData.keyHash P (.ofString "SPREAD"), .str (.ofString "SPREAD") (310 : Nat), .int 281479271743489 (309 : Nat)⟩) :: (⟨PyData.keyHash P (.ofString "Numbered"), .str (.ofString "Numbered") (358 : Nat), .ref (112 : Nat)⟩) :: (⟨PyData.keyHash P (.ofString "MOST_DEPTH"), .str (.ofString "MOST_DEPTH") (362 : Nat), .int 100 (361 : Nat)⟩) :: (⟨PyData.keyHash P (.ofString "Setting"), .str (.ofString "Setting") (399 : Nat), .ref (133 : Nat)⟩) :: (⟨PyData.keyHash P (.ofString "Account"), .str (.ofString "Account") (436 : Nat), .ref (154 : Nat)⟩) :: (⟨PyData.keyHash P (.ofString "no_account"), .str (.ofString "no_account") (442 : Nat), .ref (165 : Nat)⟩) :: (⟨PyData.keyHash P (.ofString "is_empty_account"), .str (.ofString "is_empty_account") (449 : Nat), .ref (172 : Nat)⟩) :: (⟨PyData.keyHash P (.ofString "put_slot"), .str (.ofString "put_slot") (458 : Nat), .ref (179 : Nat)⟩) :: (⟨PyData.keyHash P (.ofString "Row"), .str (.ofString "Row") (495 : Nat), .ref (196 : Nat)⟩) :: (⟨PyData.keyHash P (.ofString "undone_value"), .str (.ofString "undone_value") (503 : Nat), .ref (207 : Nat)⟩) :: (⟨PyData.keyHash P (.ofString "undone"), .str (.ofString "undone") (511 : Nat), .ref (214 : Nat)⟩) :: (⟨PyData.keyHash P (.ofString "State"), .str (.ofString "State") (802 : Nat), .ref (439 : Nat)⟩) :: (⟨PyData.keyHash P (.ofString "_law_draw"), .str (.ofString "_law_draw") (814 : Nat), .ref (450 : Nat)⟩) :: (⟨PyData.keyHash P (.ofString "_law_gift"), .str (.ofString "_law_gift") (824 : Nat), .ref (457 : Nat)⟩) :: (⟨PyData.keyHash P (.ofString "_law_left"), .str (.ofString "_law_left") (830 : Nat), .ref (462 : Nat)⟩) :: (⟨PyData.keyHash P (.ofString "_law_given"), .str (.ofString "_law_given") (836 : Nat), .ref (467 : Nat)⟩) :: (⟨PyData.keyHash P (.ofString "_law_state"), .str (.ofString "_law_state") (851 : Nat), .ref (474 : Nat)⟩) :: (⟨PyData.keyHash P (.ofString "_law_is_so"), .str (.ofString "_law_is_so") (857 : Nat), .ref (479 : Nat)⟩) :: (⟨PyData.keyHash P (.ofString "_law_all_given"), .str (.ofString "_law_all_given") (874 : Nat), .ref (486 : Nat)⟩) :: (⟨PyData.keyHash P (.ofString "law"), .str (.ofString "law") (880 : Nat), .ref (491 : Nat)⟩) :: [])) (39 : Nat), (List.toArray [])⟩
noncomputable def o11 : Params → Obj := fun P => ⟨.type "tuple", Option.none, .seq (List.toArray []) (0 : Nat), (List.toArray [])⟩
noncomputable def o12 : Params → Obj := fun P => ⟨.none, Option.none, .fields (List.toArray ((.int 1 (0 : Nat)) :: (.int 0 (0 : Nat)) :: (.ref (20 : Nat)) :: (.int 5 (0 : Nat)) :: (.int 0 (0 : Nat)) :: (.ref (27 : Nat)) :: (.int 10 (0 : Nat)) :: (.int 0 (0 : Nat)) :: (.ref (47 : Nat)) :: (.int 17 (0 : Nat)) :: (.int 0 (0 : Nat)) :: (.ref (59 : Nat)) :: (.int 24 (0 : Nat)) :: (.int 0 (0 : Nat)) :: (.ref (80 : Nat)) :: (.int 34 (0 : Nat)) :: (.int 0 (0 : Nat)) :: (.ref (87 : Nat)) :: (.int 52 (0 : Nat)) :: (.int 0 (0 : Nat)) :: (.ref (122 : Nat)) :: (.int 63 (0 : Nat)) :: (.int 0 (0 : Nat)) :: (.ref (143 : Nat)) :: (.int 70 (0 : Nat)) :: (.int 0 (0 : Nat)) :: (.ref (164 : Nat)) :: (.int 72 (0 : Nat)) :: (.int 0 (0 : Nat)) :: (.ref (171 : Nat)) :: (.int 74 (0 : Nat)) :: (.int 0 (0 : Nat)) :: (.ref (178 : Nat)) :: (.int 80 (0 : Nat)) :: (.int 0 (0 : Nat)) :: (.ref (185 : Nat)) :: (.int 87 (0 : Nat)) :: (.int 0 (0 : Nat)) :: (.ref (206 : Nat)) :: (.int 96 (0 : Nat)) :: (.int 0 (0 : Nat)) :: (.ref (213 : Nat)) :: (.int 114 (0 : Nat)) :: (.int 0 (0 : Nat)) :: (.ref (220 : Nat)) :: (.int 254 (0 : Nat)) :: (.int 0 (0 : Nat)) :: (.ref (449 : Nat)) :: (.int 259 (0 : Nat)) :: (.int 0 (0 : Nat)) :: (.ref (456 : Nat)) :: (.int 263 (0 : Nat)) :: (.int 0 (0 : Nat)) :: (.ref (461 : Nat)) :: (.int 265 (0 : Nat)) :: (.int 0 (0 : Nat)) :: (.ref (466 : Nat)) :: (.int 274 (0 : Nat)) :: (.int 0 (0 : Nat)) :: (.ref (473 : Nat)) :: (.int 285 (0 : Nat)) :: (.int 0 (0 : Nat)) :: (.ref (478 : Nat)) :: (.int 289 (0 : Nat)) :: (.int 0 (0 : Nat)) :: (.ref (485 : Nat)) :: (.int 309 (0 : Nat)) :: (.int 0 (0 : Nat)) :: (.ref (490 : Nat)) :: [])), (List.toArray [])⟩
noncomputable def o13 : Params → Obj := fun P => ⟨.type "code", Option.none, .fields (List.toArray ((.str (.ofString "<module>") (182 : Nat)) :: (.str (.ofString "<module>") (183 : Nat)) :: (.str (.ofString "/claim/cut.py") (184 : Nat)) :: (.int 1 (0 : Nat)) :: (.int 0 (0 : Nat)) :: (.int 0 (0 : Nat)) :: (.int 0 (0 : Nat)) :: (.int 0 (0 : Nat)) :: (.ref (11 : Nat)) :: (.bool false) :: (.int 181 (0 : Nat)) :: (.ref (12 : Nat)) :: (.none) :: (.none) :: (.none) :: (.none) :: (.int 185 (0 : Nat)) :: (.int 1 (0 : Nat)) :: (.str (.ofString "/claim/cut.py") (186 : Nat)) :: [])), (List.toArray [])⟩
noncomputable def o14 : Params → Obj := fun P => ⟨.type "frame", Option.none, .plain, (List.toArray [Option.some (.ref (13 : Nat)), Option.some (.ref (3 : Nat)), Option.some (.ref (3 : Nat)), Option.none, Option.some (.str (.ofString "__main__") (164 : Nat)), Option.none, Option.some (.ref (0 : Nat))])⟩
noncomputable def o15 : Params → Obj := fun P => ⟨.type "tuple", Option.none, .seq (List.toArray []) (0 : Nat), (List.toArray [])⟩
noncomputable def o16 : Params → Obj := fun P => ⟨.none, Option.none, .fields (List.toArray []), (List.toArray [])⟩
noncomputable def o17 : Params → Obj := fun P => ⟨.type "tuple", Option.none, .seq (List.toArray [.str (.ofString "k") (190 : Nat)]) (0 : Nat), (List.toArray [])⟩
noncomputable def o18 : Params → Obj := fun P => ⟨.type "tuple", Option.none, .seq (List.toArray []) (0 : Nat), (List.toArray [])⟩
noncomputable def o19 : Params → Obj := fun P => ⟨.none, Option.none, .func { name := (.ofString "_wall"), qualname := (.ofString "_wall"), params := sA_0_0_false, body := .stmts sB_0_0_false, scope := sC_0_0_false, globals := (0 : Nat), closure := [], defaults := .none, kwdefaults := .none, doc := .none, pyModule := .none, annotations := Option.none, code := .none, closureTuple := .none, builtins := (0 : Nat) }, (List.toArray [])⟩
noncomputable def o20 : Params → Obj := fun P => ⟨.type "code", Option.none, .fields (List.toArray ((.str (.ofString "_wall") (187 : Nat)) :: (.str (.ofString "_wall") (188 : Nat)) :: (.str (.ofString "/claim/cut.py") (189 : Nat)) :: (.int 1 (0 : Nat)) :: (.int 1 (0 : Nat)) :: (.int 0 (0 : Nat)) :: (.int 0 (0 : Nat)) :: (.int 3 (0 : Nat)) :: (.ref (15 : Nat)) :: (.bool true) :: (.int 181 (0 : Nat)) :: (.ref (16 : Nat)) :: (.none) :: (.ref (17 : Nat)) :: (.ref (18 : Nat)) :: (.ref (19 : Nat)) :: (.int 191 (0 : Nat)) :: (.int 1 (0 : Nat)) :: (.str (.ofString "/claim/cut.py") (192 : Nat)) :: [])), (List.toArray [])⟩
noncomputable def o21 : Params → Obj := fun P => ⟨.type "function", Option.none, .func { name := (.ofString "_wall"), qualname := (.ofString "_wall"), params := sA_0_0_false, body := .stmts sB_0_0_false, scope := sC_0_0_false, globals := (3 : Nat), closure := [], defaults := .none, kwdefaults := .none, doc := .none, pyModule := .str (.ofString "__main__") (164 : Nat), annotations := Option.none, code := .ref (20 : Nat), closureTuple := .none, builtins := (0 : Nat) }, (List.toArray [])⟩
noncomputable def o22 : Params → Obj := fun P => ⟨.type "tuple", Option.none, .seq (List.toArray [.type "Exception"]) (0 : Nat), (List.toArray [])⟩
noncomputable def o23 : Params → Obj := fun P => ⟨.type "builtin_function_or_method", Option.none, .fields (List.toArray [.builtin "type.__prepare__", .type "type"]), (List.toArray [])⟩
noncomputable def o24 : Params → Obj := fun P => ⟨.type "dict", Option.none, .dict (List.toArray [⟨PyData.keyHash P (.ofString "__module__"), .str (.ofString "__module__") (203 : Nat), .str (.ofString "gasledger.errors") (194 : Nat)⟩, ⟨PyData.keyHash P (.ofString "__qualname__"), .str (.ofString "__qualname__") (205 : Nat), .str (.ofString "MachineFault") (204 : Nat)⟩, ⟨PyData.keyHash P (.ofString "__firstlineno__"), .str (.ofString "__firstlineno__") (207 : Nat), .int 5 (206 : Nat)⟩, ⟨PyData.keyHash P (.ofString "__init__"), .str (.ofString "__init__") (215 : Nat), .ref (35 : Nat)⟩, ⟨PyData.keyHash P (.ofString "__static_attributes__"), .str (.ofString "__static_attributes__") (217 : Nat), .ref (36 : Nat)⟩]) (5 : Nat), (List.toArray [])⟩
noncomputable def o25 : Params → Obj := fun P => ⟨.type "tuple", Option.none, .seq (List.toArray []) (0 : Nat), (List.toArray [])⟩
noncomputable def o26 : Params → Obj := fun P => ⟨.none, Option.none, .fields (List.toArray [.int 7 (0 : Nat), .int 4 (0 : Nat), .ref (34 : Nat)]), (List.toArray [])⟩
noncomputable def o27 : Params → Obj := fun P => ⟨.type "code", Option.none, .fields (List.toArray ((.str (.ofString "MachineFault") (198 : Nat)) :: (.str (.ofString "MachineFault") (199 : Nat)) :: (.str (.ofString "/claim/cut.py") (200 : Nat)) :: (.int 5 (0 : Nat)) :: (.int 0 (0 : Nat)) :: (.int 0 (0 : Nat)) :: (.int 0 (0 : Nat)) :: (.int 0 (0 : Nat)) :: (.ref (25 : Nat)) :: (.bool false) :: (.int 181 (0 : Nat)) :: (.ref (26 : Nat)) :: (.none) :: (.none) :: (.none) :: (.none) :: (.int 201 (0 : Nat)) :: (.int 5 (0 : Nat)) :: (.str (.ofString "/claim/cut.py") (202 : Nat)) :: [])), (List.toArray [])⟩
noncomputable def o28 : Params → Obj := fun P => ⟨.type "frame", Option.none, .plain, (List.toArray [Option.some (.ref (27 : Nat)), Option.some (.ref (3 : Nat)), Option.some (.ref (24 : Nat)), Option.none, Option.some (.str (.ofString "gasledger.errors") (194 : Nat)), Option.none, Option.some (.ref (0 : Nat))])⟩
noncomputable def o29 : Params → Obj := fun P => ⟨.type "tuple", Option.none, .seq (List.toArray []) (0 : Nat), (List.toArray [])⟩
noncomputable def o30 : Params → Obj := fun P => ⟨.none, Option.none, .fields (List.toArray []), (List.toArray [])⟩
noncomputable def o31 : Params → Obj := fun P => ⟨.type "tuple", Option.none, .seq (List.toArray [.str (.ofString "self") (211 : Nat), .str (.ofString "word") (212 : Nat)]) (0 : Nat), (List.toArray [])⟩
noncomputable def o32 : Params → Obj := fun P => ⟨.type "tuple", Option.none, .seq (List.toArray []) (0 : Nat), (List.toArray [])⟩
noncomputable def o33 : Params → Obj := fun P => ⟨.none, Option.none, .func { name := (.ofString "__init__"), qualname := (.ofString "MachineFault.__init__"), params := sA_2_0_true, body := .stmts sB_2_0_true, scope := sC_2_0_true, globals := (0 : Nat), closure := [], defaults := .none, kwdefaults := .none, doc := .none, pyModule := .none, annotations := Option.none, code := .none, closureTuple := .none, builtins := (0 : Nat) }, (List.toArray [])⟩
noncomputable def o34 : Params → Obj := fun P => ⟨.type "code", Option.none, .fields (List.toArray ((.str (.ofString "__init__") (208 : Nat)) :: (.str (.ofString "MachineFault.__init__") (209 : Nat)) :: (.str (.ofString "/claim/cut.py") (210 : Nat)) :: (.int 7 (0 : Nat)) :: (.int 2 (0 : Nat)) :: (.int 0 (0 : Nat)) :: (.int 0 (0 : Nat)) :: (.int 3 (0 : Nat)) :: (.ref (29 : Nat)) :: (.bool true) :: (.int 181 (0 : Nat)) :: (.ref (30 : Nat)) :: (.none) :: (.ref (31 : Nat)) :: (.ref (32 : Nat)) :: (.ref (33 : Nat)) :: (.int 213 (0 : Nat)) :: (.int 7 (0 : Nat)) :: (.str (.ofString "/claim/cut.py") (214 : Nat)) :: [])), (List.toArray [])⟩
noncomputable def o35 : Params → Obj := fun P => ⟨.type "function", Option.none, .func { name := (.ofString "__init__"), qualname := (.ofString "MachineFault.__init__"), params := sA_2_0_true, body := .stmts sB_2_0_true, scope := sC_2_0_true, globals := (3 : Nat), closure := [], defaults := .none, kwdefaults := .none, doc := .none, pyModule := .str (.ofString "gasledger.errors") (194 : Nat), annotations := Option.none, code := .ref (34 : Nat), closureTuple := .none, builtins := (0 : Nat) }, (List.toArray [])⟩
noncomputable def o36 : Params → Obj := fun P => ⟨.type "tuple", Option.none, .seq (List.toArray [.str (.ofString "word") (216 : Nat)]) (0 : Nat), (List.toArray [])⟩
noncomputable def o37 : Params → Obj := fun P => ⟨.type "dict", Option.none, .dict (List.toArray [⟨PyData.keyHash P (.ofString "__module__"), .str (.ofString "__module__") (203 : Nat), .str (.ofString "gasledger.errors") (194 : Nat)⟩, ⟨PyData.keyHash P (.ofString "__firstlineno__"), .str (.ofString "__firstlineno__") (207 : Nat), .int 5 (206 : Nat)⟩, ⟨PyData.keyHash P (.ofString "__init__"), .str (.ofString "__init__") (215 : Nat), .ref (35 : Nat)⟩, ⟨PyData.keyHash P (.ofString "__static_attributes__"), .str (.ofString "__static_attributes__") (217 : Nat), .ref (36 : Nat)⟩, ⟨PyData.keyHash P (.ofString "__weakref__"), .str (.ofString "__weakref__") (219 : Nat), .ref (39 : Nat)⟩, ⟨PyData.keyHash P (.ofString "__doc__"), .str (.ofString "__doc__") (220 : Nat), .none⟩]) (3 : Nat), (List.toArray [])⟩
noncomputable def o38 : Params → Obj := fun P => ⟨.type "type", Option.none, .cls { name := (.ofString "MachineFault"), bases := [.type "Exception"], mro := [.ref (38 : Nat), .type "Exception", .type "BaseException", .type "object"], ns := (37 : Nat), qualname := (.ofString "MachineFault"), hasDict := true, slotNames := [], subclasses := [.ref (51 : Nat)], abstract := false, collection := Option.none, hasDel := false }, (List.toArray [Option.some (.ref (22 : Nat)), Option.none, Option.some (.str (.ofString "MachineFault") (196 : Nat)), Option.some (.str (.ofString "MachineFault") (204 : Nat)), Option.some (.builtin "Exception.__new__"), Option.some (.bool true)])⟩
noncomputable def o39 : Params → Obj := fun P => ⟨.type "getset_descriptor", Option.none, .fields (List.toArray [.str (.ofString "__weakref__") (218 : Nat), .ref (38 : Nat), .builtin "ExceptionGroup.__weakref__", .none]), (List.toArray [])⟩
noncomputable def o40 : Params → Obj := fun P => ⟨.type "super", Option.none, .fields (List.toArray [.ref (38 : Nat), .ref (38 : Nat), .ref (38 : Nat)]), (List.toArray [])⟩
noncomputable def o41 : Params → Obj := fun P => ⟨.type "builtin_function_or_method", Option.none, .fields (List.toArray [.builtin "object.__init_subclass__", .ref (38 : Nat)]), (List.toArray [])⟩
noncomputable def o42 : Params → Obj := fun P => ⟨.type "tuple", Option.none, .seq (List.toArray [.ref (38 : Nat)]) (0 : Nat), (List.toArray [])⟩
noncomputable def o43 : Params → Obj := fun P => ⟨.type "builtin_function_or_method", Option.none, .fields (List.toArray [.builtin "type.__prepare__", .type "type"]), (List.toArray [])⟩
noncomputable def o44 : Params → Obj := fun P => ⟨.type "dict", Option.none, .dict (List.toArray [⟨PyData.keyHash P (.ofString "__module__"), .str (.ofString "__module__") (232 : Nat), .str (.ofString "gasledger.errors") (194 : Nat)⟩, ⟨PyData.keyHash P (.ofString "__qualname__"), .str (.ofString "__qualname__") (234 : Nat), .str (.ofString "BlockFault") (233 : Nat)⟩, ⟨PyData.keyHash P (.ofString "__firstlineno__"), .str (.ofString "__firstlineno__") (236 : Nat), .int 10 (235 : Nat)⟩, ⟨PyData.keyHash P (.ofString "__static_attributes__"), .str (.ofString "__static_attributes__") (237 : Nat), .ref (49 : Nat)⟩]) (4 : Nat), (List.toArray [])⟩
noncomputable def o45 : Params → Obj := fun P => ⟨.type "tuple", Option.none, .seq (List.toArray []) (0 : Nat), (List.toArray [])⟩
noncomputable def o46 : Params → Obj := fun P => ⟨.none, Option.none, .fields (List.toArray []), (List.toArray [])⟩
noncomputable def o47 : Params → Obj := fun P => ⟨.type "code", Option.none, .fields (List.toArray ((.str (.ofString "BlockFault") (227 : Nat)) :: (.str (.ofString "BlockFault") (228 : Nat)) :: (.str (.ofString "/claim/cut.py") (229 : Nat)) :: (.int 10 (0 : Nat)) :: (.int 0 (0 : Nat)) :: (.int 0 (0 : Nat)) :: (.int 0 (0 : Nat)) :: (.int 0 (0 : Nat)) :: (.ref (45 : Nat)) :: (.bool false) :: (.int 181 (0 : Nat)) :: (.ref (46 : Nat)) :: (.none) :: (.none) :: (.none) :: (.none) :: (.int 230 (0 : Nat)) :: (.int 10 (0 : Nat)) :: (.str (.ofString "/claim/cut.py") (231 : Nat)) :: [])), (List.toArray [])⟩
noncomputable def o48 : Params → Obj := fun P => ⟨.type "frame", Option.none, .plain, (List.toArray [Option.some (.ref (47 : Nat)), Option.some (.ref (3 : Nat)), Option.some (.ref (44 : Nat)), Option.none, Option.some (.str (.ofString "gasledger.errors") (194 : Nat)), Option.none, Option.some (.ref (0 : Nat))])⟩
noncomputable def o49 : Params → Obj := fun P => ⟨.type "tuple", Option.none, .seq (List.toArray []) (0 : Nat), (List.toArray [])⟩
noncomputable def o50 : Params → Obj := fun P => ⟨.type "dict", Option.none, .dict (List.toArray [⟨PyData.keyHash P (.ofString "__module__"), .str (.ofString "__module__") (232 : Nat), .str (.ofString "gasledger.errors") (194 : Nat)⟩, ⟨PyData.keyHash P (.ofString "__firstlineno__"), .str (.ofString "__firstlineno__") (236 : Nat), .int 10 (235 : Nat)⟩, ⟨PyData.keyHash P (.ofString "__static_attributes__"), .str (.ofString "__static_attributes__") (237 : Nat), .ref (49 : Nat)⟩, ⟨PyData.keyHash P (.ofString "__doc__"), .str (.ofString "__doc__") (238 : Nat), .none⟩]) (2 : Nat), (List.toArray [])⟩
noncomputable def o51 : Params → Obj := fun P => ⟨.type "type", Option.none, .cls { name := (.ofString "BlockFault"), bases := [.ref (38 : Nat)], mro := [.ref (51 : Nat), .ref (38 : Nat), .type "Exception", .type "BaseException", .type "object"], ns := (50 : Nat), qualname := (.ofString "BlockFault"), hasDict := true, slotNames := [], subclasses := [], abstract := false, collection := Option.none, hasDel := false }, (List.toArray [Option.some (.ref (42 : Nat)), Option.none, Option.some (.str (.ofString "BlockFault") (225 : Nat)), Option.some (.str (.ofString "BlockFault") (233 : Nat)), Option.some (.builtin "Exception.__new__"), Option.some (.bool true)])⟩
noncomputable def o52 : Params → Obj := fun P => ⟨.type "super", Option.none, .fields (List.toArray [.ref (51 : Nat), .ref (51 : Nat), .ref (51 : Nat)]), (List.toArray [])⟩
noncomputable def o53 : Params → Obj := fun P => ⟨.type "builtin_function_or_method", Option.none, .fields (List.toArray [.builtin "object.__init_subclass__", .ref (51 : Nat)]), (List.toArray [])⟩
noncomputable def o54 : Params → Obj := fun P => ⟨.type "tuple", Option.none, .seq (List.toArray []) (0 : Nat), (List.toArray [])⟩
noncomputable def o55 : Params → Obj := fun P => ⟨.type "builtin_function_or_method", Option.none, .fields (List.toArray [.builtin "type.__prepare__", .type "type"]), (List.toArray [])⟩
noncomputable def o56 : Params → Obj := fun P => ⟨.type "dict", Option.none, .dict (List.toArray [⟨PyData.keyHash P (.ofString "__module__"), .str (.ofString "__module__") (266 : Nat), .str (.ofString "gasledger.block") (253 : Nat)⟩, ⟨PyData.keyHash P (.ofString "__qualname__"), .str (.ofString "__qualname__") (268 : Nat), .str (.ofString "Withdrawal") (267 : Nat)⟩, ⟨PyData.keyHash P (.ofString "__firstlineno__"), .str (.ofString "__firstlineno__") (270 : Nat), .int 17 (269 : Nat)⟩, ⟨PyData.keyHash P (.ofString "__init__"), .str (.ofString "__init__") (281 : Nat), .ref (67 : Nat)⟩, ⟨PyData.keyHash P (.ofString "__static_attributes__"), .str (.ofString "__static_attributes__") (286 : Nat), .ref (68 : Nat)⟩]) (5 : Nat), (List.toArray [])⟩
noncomputable def o57 : Params → Obj := fun P => ⟨.type "tuple", Option.none, .seq (List.toArray []) (0 : Nat), (List.toArray [])⟩
noncomputable def o58 : Params → Obj := fun P => ⟨.none, Option.none, .fields (List.toArray [.int 19 (0 : Nat), .int 4 (0 : Nat), .ref (66 : Nat)]), (List.toArray [])⟩
noncomputable def o59 : Params → Obj := fun P => ⟨.type "code", Option.none, .fields (List.toArray ((.str (.ofString "Withdrawal") (261 : Nat)) :: (.str (.ofString "Withdrawal") (262 : Nat)) :: (.str (.ofString "/claim/cut.py") (263 : Nat)) :: (.int 17 (0 : Nat)) :: (.int 0 (0 : Nat)) :: (.int 0 (0 : Nat)) :: (.int 0 (0 : Nat)) :: (.int 0 (0 : Nat)) :: (.ref (57 : Nat)) :: (.bool false) :: (.int 181 (0 : Nat)) :: (.ref (58 : Nat)) :: (.none) :: (.none) :: (.none) :: (.none) :: (.int 264 (0 : Nat)) :: (.int 17 (0 : Nat)) :: (.str (.ofString "/claim/cut.py") (265 : Nat)) :: [])), (List.toArray [])⟩
noncomputable def o60 : Params → Obj := fun P => ⟨.type "frame", Option.none, .plain, (List.toArray [Option.some (.ref (59 : Nat)), Option.some (.ref (3 : Nat)), Option.some (.ref (56 : Nat)), Option.none, Option.some (.str (.ofString "gasledger.block") (253 : Nat)), Option.none, Option.some (.ref (0 : Nat))])⟩
noncomputable def o61 : Params → Obj := fun P => ⟨.type "tuple", Option.none, .seq (List.toArray []) (0 : Nat), (List.toArray [])⟩
noncomputable def o62 : Params → Obj := fun P => ⟨.none, Option.none, .fields (List.toArray []), (List.toArray [])⟩
noncomputable def o63 : Params → Obj := fun P => ⟨.type "tuple", Option.none, .seq (List.toArray [.str (.ofString "self") (274 : Nat), .str (.ofString "index") (275 : Nat), .str (.ofString "validator") (276 : Nat), .str (.ofString "address") (277 : Nat), .str (.ofString "amount") (278 : Nat)]) (0 : Nat), (List.toArray [])⟩
noncomputable def o64 : Params → Obj := fun P => ⟨.type "tuple", Option.none, .seq (List.toArray []) (0 : Nat), (List.toArray [])⟩
noncomputable def o65 : Params → Obj := fun P => ⟨.none, Option.none, .func { name := (.ofString "__init__"), qualname := (.ofString "Withdrawal.__init__"), params := sA_9_0_true, body := .stmts sB_9_0_true, scope := sC_9_0_true, globals := (0 : Nat), closure := [], defaults := .none, kwdefaults := .none, doc := .none, pyModule := .none, annotations := Option.none, code := .none, closureTuple := .none, builtins := (0 : Nat) }, (List.toArray [])⟩
noncomputable def o66 : Params → Obj := fun P => ⟨.type "code", Option.none, .fields (List.toArray ((.str (.ofString "__init__") (271 : Nat)) :: (.str (.ofString "Withdrawal.__init__") (272 : Nat)) :: (.str (.ofString "/claim/cut.py") (273 : Nat)) :: (.int 19 (0 : Nat)) :: (.int 5 (0 : Nat)) :: (.int 0 (0 : Nat)) :: (.int 0 (0 : Nat)) :: (.int 3 (0 : Nat)) :: (.ref (61 : Nat)) :: (.bool true) :: (.int 181 (0 : Nat)) :: (.ref (62 : Nat)) :: (.none) :: (.ref (63 : Nat)) :: (.ref (64 : Nat)) :: (.ref (65 : Nat)) :: (.int 279 (0 : Nat)) :: (.int 19 (0 : Nat)) :: (.str (.ofString "/claim/cut.py") (280 : Nat)) :: [])), (List.toArray [])⟩
noncomputable def o67 : Params → Obj := fun P => ⟨.type "function", Option.none, .func { name := (.ofString "__init__"), qualname := (.ofString "Withdrawal.__init__"), params := sA_9_0_true, body := .stmts sB_9_0_true, scope := sC_9_0_true, globals := (3 : Nat), closure := [], defaults := .none, kwdefaults := .none, doc := .none, pyModule := .str (.ofString "gasledger.block") (253 : Nat), annotations := Option.none, code := .ref (66 : Nat), closureTuple := .none, builtins := (0 : Nat) }, (List.toArray [])⟩
noncomputable def o68 : Params → Obj := fun P => ⟨.type "tuple", Option.none, .seq (List.toArray [.str (.ofString "address") (282 : Nat), .str (.ofString "amount") (283 : Nat), .str (.ofString "index") (284 : Nat), .str (.ofString "validator") (285 : Nat)]) (0 : Nat), (List.toArray [])⟩
noncomputable def o69 : Params → Obj := fun P => ⟨.type "dict", Option.none, .dict (List.toArray [⟨PyData.keyHash P (.ofString "__module__"), .str (.ofString "__module__") (266 : Nat), .str (.ofString "gasledger.block") (253 : Nat)⟩, ⟨PyData.keyHash P (.ofString "__firstlineno__"), .str (.ofString "__firstlineno__") (270 : Nat), .int 17 (269 : Nat)⟩, ⟨PyData.keyHash P (.ofString "__init__"), .str (.ofString "__init__") (281 : Nat), .ref (67 : Nat)⟩, ⟨PyData.keyHash P (.ofString "__static_attributes__"), .str (.ofString "__static_attributes__") (286 : Nat), .ref (68 : Nat)⟩, ⟨PyData.keyHash P (.ofString "__dict__"), .str (.ofString "__dict__") (288 : Nat), .ref (71 : Nat)⟩, ⟨PyData.keyHash P (.ofString "__weakref__"), .str (.ofString "__weakref__") (290 : Nat), .ref (72 : Nat)⟩, ⟨PyData.keyHash P (.ofString "__doc__"), .str (.ofString "__doc__") (291 : Nat), .none⟩]) (4 : Nat), (List.toArray [])⟩
noncomputable def o70 : Params → Obj := fun P => ⟨.type "type", Option.none, .cls { name := (.ofString "Withdrawal"), bases := [.type "object"], mro := [.ref (70 : Nat), .type "object"], ns := (69 : Nat), qualname := (.ofString "Withdrawal"), hasDict := true, slotNames := [], subclasses := [], abstract := false, collection := Option.none, hasDel := false }, (List.toArray [Option.none, Option.none, Option.some (.str (.ofString "Withdrawal") (259 : Nat)), Option.some (.str (.ofString "Withdrawal") (267 : Nat)), Option.some (.builtin "object.__new__"), Option.some (.bool true)])⟩
noncomputable def o71 : Params → Obj := fun P => ⟨.type "getset_descriptor", Option.none, .fields (List.toArray [.str (.ofString "__dict__") (287 : Nat), .ref (70 : Nat), .builtin "function.__dict__", .builtin "function.__dict__#set"]), (List.toArray [])⟩
noncomputable def o72 : Params → Obj := fun P => ⟨.type "getset_descriptor", Option.none, .fields (List.toArray [.str (.ofString "__weakref__") (289 : Nat), .ref (70 : Nat), .builtin "ExceptionGroup.__weakref__", .none]), (List.toArray [])⟩
noncomputable def o73 : Params → Obj := fun P => ⟨.type "super", Option.none, .fields (List.toArray [.ref (70 : Nat), .ref (70 : Nat), .ref (70 : Nat)]), (List.toArray [])⟩
noncomputable def o74 : Params → Obj := fun P => ⟨.type "builtin_function_or_method", Option.none, .fields (List.toArray [.builtin "object.__init_subclass__", .ref (70 : Nat)]), (List.toArray [])⟩
noncomputable def o75 : Params → Obj := fun P => ⟨.type "tuple", Option.none, .seq (List.toArray []) (0 : Nat), (List.toArray [])⟩
noncomputable def o76 : Params → Obj := fun P => ⟨.none, Option.none, .fields (List.toArray []), (List.toArray [])⟩
noncomputable def o77 : Params → Obj := fun P => ⟨.type "tuple", Option.none, .seq (List.toArray [.str (.ofString "state") (297 : Nat), .str (.ofString "withdrawal") (298 : Nat), .str (.ofString "amount") (299 : Nat)]) (0 : Nat), (List.toArray [])⟩
noncomputable def o78 : Params → Obj := fun P => ⟨.type "tuple", Option.none, .seq (List.toArray []) (0 : Nat), (List.toArray [])⟩
noncomputable def o79 : Params → Obj := fun P => ⟨.none, Option.none, .func { name := (.ofString "withdraw"), qualname := (.ofString "withdraw"), params := sA_10_0_false, body := .stmts sB_10_0_false, scope := sC_10_0_false, globals := (0 : Nat), closure := [], defaults := .none, kwdefaults := .none, doc := .none, pyModule := .none, annotations := Option.none, code := .none, closureTuple := .none, builtins := (0 : Nat) }, (List.toArray [])⟩
noncomputable def o80 : Params → Obj := fun P => ⟨.type "code", Option.none, .fields (List.toArray ((.str (.ofString "withdraw") (294 : Nat)) :: (.str (.ofString "withdraw") (295 : Nat)) :: (.str (.ofString "/claim/cut.py") (296 : Nat)) :: (.int 24 (0 : Nat)) :: (.int 2 (0 : Nat)) :: (.int 0 (0 : Nat)) :: (.int 0 (0 : Nat)) :: (.int 3 (0 : Nat)) :: (.ref (75 : Nat)) :: (.bool true) :: (.int 181 (0 : Nat)) :: (.ref (76 : Nat)) :: (.none) :: (.ref (77 : Nat)) :: (.ref (78 : Nat)) :: (.ref (79 : Nat)) :: (.int 300 (0 : Nat)) :: (.int 24 (0 : Nat)) :: (.str (.ofString "/claim/cut.py") (301 : Nat)) :: [])), (List.toArray [])⟩
noncomputable def o81 : Params → Obj := fun P => ⟨.type "function", Option.none, .func { name := (.ofString "withdraw"), qualname := (.ofString "withdraw"), params := sA_10_0_false, body := .stmts sB_10_0_false, scope := sC_10_0_false, globals := (3 : Nat), closure := [], defaults := .none, kwdefaults := .none, doc := .none, pyModule := .str (.ofString "gasledger.block") (253 : Nat), annotations := Option.none, code := .ref (80 : Nat), closureTuple := .none, builtins := (0 : Nat) }, (List.toArray [])⟩
noncomputable def o82 : Params → Obj := fun P => ⟨.type "tuple", Option.none, .seq (List.toArray []) (0 : Nat), (List.toArray [])⟩
noncomputable def o83 : Params → Obj := fun P => ⟨.type "builtin_function_or_method", Option.none, .fields (List.toArray [.builtin "type.__prepare__", .type "type"]), (List.toArray [])⟩
noncomputable def o84 : Params → Obj := fun P => ⟨.type "dict", Option.none, .dict (List.toArray [⟨PyData.keyHash P (.ofString "__module__"), .str (.ofString "__module__") (318 : Nat), .str (.ofString "gasledger.digests") (303 : Nat)⟩, ⟨PyData.keyHash P (.ofString "__qualname__"), .str (.ofString "__qualname__") (320 : Nat), .str (.ofString "Numbered") (319 : Nat)⟩, ⟨PyData.keyHash P (.ofString "__firstlineno__"), .str (.ofString "__firstlineno__") (322 : Nat), .int 34 (321 : Nat)⟩, ⟨PyData.keyHash P (.ofString "__init__"), .str (.ofString "__init__") (329 : Nat), .ref (95 : Nat)⟩, ⟨PyData.keyHash P (.ofString "number"), .str (.ofString "number") (338 : Nat), .ref (102 : Nat)⟩, ⟨PyData.keyHash P (.ofString "of"), .str (.ofString "of") (349 : Nat), .ref (109 : Nat)⟩, ⟨PyData.keyHash P (.ofString "__static_attributes__"), .str (.ofString "__static_attributes__") (351 : Nat), .ref (110 : Nat)⟩]) (7 : Nat), (List.toArray [])⟩
noncomputable def o85 : Params → Obj := fun P => ⟨.type "tuple", Option.none, .seq (List.toArray []) (0 : Nat), (List.toArray [])⟩
noncomputable def o86 : Params → Obj := fun P => ⟨.none, Option.none, .fields (List.toArray ((.int 36 (0 : Nat)) :: (.int 4 (0 : Nat)) :: (.ref (94 : Nat)) :: (.int 39 (0 : Nat)) :: (.int 4 (0 : Nat)) :: (.ref (101 : Nat)) :: (.int 45 (0 : Nat)) :: (.int 4 (0 : Nat)) :: (.ref (108 : Nat)) :: [])), (List.toArray [])⟩
noncomputable def o87 : Params → Obj := fun P => ⟨.type "code", Option.none, .fields (List.toArray ((.str (.ofString "Numbered") (313 : Nat)) :: (.str (.ofString "Numbered") (314 : Nat)) :: (.str (.ofString "/claim/cut.py") (315 : Nat)) :: (.int 34 (0 : Nat)) :: (.int 0 (0 : Nat)) :: (.int 0 (0 : Nat)) :: (.int 0 (0 : Nat)) :: (.int 0 (0 : Nat)) :: (.ref (85 : Nat)) :: (.bool false) :: (.int 181 (0 : Nat)) :: (.ref (86 : Nat)) :: (.none) :: (.none) :: (.none) :: (.none) :: (.int 316 (0 : Nat)) :: (.int 34 (0 : Nat)) :: (.str (.ofString "/claim/cut.py") (317 : Nat)) :: [])), (List.toArray [])⟩
noncomputable def o88 : Params → Obj := fun P => ⟨.type "frame", Option.none, .plain, (List.toArray [Option.some (.ref (87 : Nat)), Option.some (.ref (3 : Nat)), Option.some (.ref (84 : Nat)), Option.none, Option.some (.str (.ofString "gasledger.digests") (303 : Nat)), Option.none, Option.some (.ref (0 : Nat))])⟩
noncomputable def o89 : Params → Obj := fun P => ⟨.type "tuple", Option.none, .seq (List.toArray []) (0 : Nat), (List.toArray [])⟩
noncomputable def o90 : Params → Obj := fun P => ⟨.none, Option.none, .fields (List.toArray []), (List.toArray [])⟩
noncomputable def o91 : Params → Obj := fun P => ⟨.type "tuple", Option.none, .seq (List.toArray [.str (.ofString "self") (326 : Nat)]) (0 : Nat), (List.toArray [])⟩
noncomputable def o92 : Params → Obj := fun P => ⟨.type "tuple", Option.none, .seq (List.toArray []) (0 : Nat), (List.toArray [])⟩
noncomputable def o93 : Params → Obj := fun P => ⟨.none, Option.none, .func { name := (.ofString "__init__"), qualname := (.ofString "Numbered.__init__"), params := sA_14_0_true, body := .stmts sB_14_0_true, scope := sC_14_0_true, globals := (0 : Nat), closure := [], defaults := .none, kwdefaults := .none, doc := .none, pyModule := .none, annotations := Option.none, code := .none, closureTuple := .none, builtins := (0 : Nat) }, (List.toArray [])⟩
noncomputable def o94 : Params → Obj := fun P => ⟨.type "code", Option.none, .fields (List.toArray ((.str (.ofString "__init__") (323 : Nat)) :: (.str (.ofString "Numbered.__init__") (324 : Nat)) :: (.str (.ofString "/claim/cut.py") (325 : Nat)) :: (.int 36 (0 : Nat)) :: (.int 1 (0 : Nat)) :: (.int 0 (0 : Nat)) :: (.int 0 (0 : Nat)) :: (.int 3 (0 : Nat)) :: (.ref (89 : Nat)) :: (.bool true) :: (.int 181 (0 : Nat)) :: (.ref (90 : Nat)) :: (.none) :: (.ref (91 : Nat)) :: (.ref (92 : Nat)) :: (.ref (93 : Nat)) :: (.int 327 (0 : Nat)) :: (.int 36 (0 : Nat)) :: (.str (.ofString "/claim/cut.py") (328 : Nat)) :: [])), (List.toArray [])⟩
noncomputable def o95 : Params → Obj := fun P => ⟨.type "function", Option.none, .func { name := (.ofString "__init__"), qualname := (.ofString "Numbered.__init__"), params := sA_14_0_true, body := .stmts sB_14_0_true, scope := sC_14_0_true, globals := (3 : Nat), closure := [], defaults := .none, kwdefaults := .none, doc := .none, pyModule := .str (.ofString "gasledger.digests") (303 : Nat), annotations := Option.none, code := .ref (94 : Nat), closureTuple := .none, builtins := (0 : Nat) }, (List.toArray [])⟩
noncomputable def o96 : Params → Obj := fun P => ⟨.type "tuple", Option.none, .seq (List.toArray []) (0 : Nat), (List.toArray [])⟩
noncomputable def o97 : Params → Obj := fun P => ⟨.none, Option.none, .fields (List.toArray []), (List.toArray [])⟩
noncomputable def o98 : Params → Obj := fun P => ⟨.type "tuple", Option.none, .seq (List.toArray [.str (.ofString "self") (333 : Nat), .str (.ofString "octets") (334 : Nat), .str (.ofString "key") (335 : Nat)]) (0 : Nat), (List.toArray [])⟩
noncomputable def o99 : Params → Obj := fun P => ⟨.type "tuple", Option.none, .seq (List.toArray []) (0 : Nat), (List.toArray [])⟩
noncomputable def o100 : Params → Obj := fun P => ⟨.none, Option.none, .func { name := (.ofString "number"), qualname := (.ofString "Numbered.number"), params := sA_14_1_true, body := .stmts sB_14_1_true, scope := sC_14_1_true, globals := (0 : Nat), closure := [], defaults := .none, kwdefaults := .none, doc := .none, pyModule := .none, annotations := Option.none, code := .none, closureTuple := .none, builtins := (0 : Nat) }, (List.toArray [])⟩
noncomputable def o101 : Params → Obj := fun P => ⟨.type "code", Option.none, .fields (List.toArray ((.str (.ofString "number") (330 : Nat)) :: (.str (.ofString "Numbered.number") (331 : Nat)) :: (.str (.ofString "/claim/cut.py") (332 : Nat)) :: (.int 39 (0 : Nat)) :: (.int 2 (0 : Nat)) :: (.int 0 (0 : Nat)) :: (.int 0 (0 : Nat)) :: (.int 3 (0 : Nat)) :: (.ref (96 : Nat)) :: (.bool true) :: (.int 181 (0 : Nat)) :: (.ref (97 : Nat)) :: (.none) :: (.ref (98 : Nat)) :: (.ref (99 : Nat)) :: (.ref (100 : Nat)) :: (.int 336 (0 : Nat)) :: (.int 39 (0 : Nat)) :: (.str (.ofString "/claim/cut.py") (337 : Nat)) :: [])), (List.toArray [])⟩
noncomputable def o102 : Params → Obj := fun P => ⟨.type "function", Option.none, .func { name := (.ofString "number"), qualname := (.ofString "Numbered.number"), params := sA_14_1_true, body := .stmts sB_14_1_true, scope := sC_14_1_true, globals := (3 : Nat), closure := [], defaults := .none, kwdefaults := .none, doc := .none, pyModule := .str (.ofString "gasledger.digests") (303 : Nat), annotations := Option.none, code := .ref (101 : Nat), closureTuple := .none, builtins := (0 : Nat) }, (List.toArray [])⟩
noncomputable def o103 : Params → Obj := fun P => ⟨.type "tuple", Option.none, .seq (List.toArray []) (0 : Nat), (List.toArray [])⟩
noncomputable def o104 : Params → Obj := fun P => ⟨.none, Option.none, .fields (List.toArray []), (List.toArray [])⟩
noncomputable def o105 : Params → Obj := fun P => ⟨.type "tuple", Option.none, .seq (List.toArray [.str (.ofString "self") (342 : Nat), .str (.ofString "octets") (343 : Nat), .str (.ofString "number") (344 : Nat), .str (.ofString "first") (345 : Nat), .str (.ofString "middle") (346 : Nat)]) (0 : Nat), (List.toArray [])⟩
noncomputable def o106 : Params → Obj := fun P => ⟨.type "tuple", Option.none, .seq (List.toArray []) (0 : Nat), (List.toArray [])⟩
noncomputable def o107 : Params → Obj := fun P => ⟨.none, Option.none, .func { name := (.ofString "of"), qualname := (.ofString "Numbered.of"), params := sA_14_2_true, body := .stmts sB_14_2_true, scope := sC_14_2_true, globals := (0 : Nat), closure := [], defaults := .none, kwdefaults := .none, doc := .none, pyModule := .none, annotations := Option.none, code := .none, closureTuple := .none, builtins := (0 : Nat) }, (List.toArray [])⟩
noncomputable def o108 : Params → Obj := fun P => ⟨.type "code", Option.none, .fields (List.toArray ((.str (.ofString "of") (339 : Nat)) :: (.str (.ofString "Numbered.of") (340 : Nat)) :: (.str (.ofString "/claim/cut.py") (341 : Nat)) :: (.int 45 (0 : Nat)) :: (.int 2 (0 : Nat)) :: (.int 0 (0 : Nat)) :: (.int 0 (0 : Nat)) :: (.int 3 (0 : Nat)) :: (.ref (103 : Nat)) :: (.bool true) :: (.int 181 (0 : Nat)) :: (.ref (104 : Nat)) :: (.none) :: (.ref (105 : Nat)) :: (.ref (106 : Nat)) :: (.ref (107 : Nat)) :: (.int 347 (0 : Nat)) :: (.int 45 (0 : Nat)) :: (.str (.ofString "/claim/cut.py") (348 : Nat)) :: [])), (List.toArray [])⟩
noncomputable def o109 : Params → Obj := fun P => ⟨.type "function", Option.none, .func { name := (.ofString "of"), qualname := (.ofString "Numbered.of"), params := sA_14_2_true, body := .stmts sB_14_2_true, scope := sC_14_2_true, globals := (3 : Nat), closure := [], defaults := .none, kwdefaults := .none, doc := .none, pyModule := .str (.ofString "gasledger.digests") (303 : Nat), annotations := Option.none, code := .ref (108 : Nat), closureTuple := .none, builtins := (0 : Nat) }, (List.toArray [])⟩
noncomputable def o110 : Params → Obj := fun P => ⟨.type "tuple", Option.none, .seq (List.toArray [.str (.ofString "known") (350 : Nat)]) (0 : Nat), (List.toArray [])⟩
noncomputable def o111 : Params → Obj := fun P => ⟨.type "dict", Option.none, .dict (List.toArray ((⟨PyData.keyHash P (.ofString "__module__"), .str (.ofString "__module__") (318 : Nat), .str (.ofString "gasledger.digests") (303 : Nat)⟩) :: (⟨PyData.keyHash P (.ofString "__firstlineno__"), .str (.ofString "__firstlineno__") (322 : Nat), .int 34 (321 : Nat)⟩) :: (⟨PyData.keyHash P (.ofString "__init__"), .str (.ofString "__init__") (329 : Nat), .ref (95 : Nat)⟩) :: (⟨PyData.keyHash P (.ofString "number"), .str (.ofString "number") (338 : Nat), .ref (102 : Nat)⟩) :: (⟨PyData.keyHash P (.ofString "of"), .str (.ofString "of") (349 : Nat), .ref (109 : Nat)⟩) :: (⟨PyData.keyHash P (.ofString "__static_attributes__"), .str (.ofString "__static_attributes__") (351 : Nat), .ref (110 : Nat)⟩) :: (⟨PyData.keyHash P (.ofString "__dict__"), .str (.ofString "__dict__") (353 : Nat), .ref (113 : Nat)⟩) :: (⟨PyData.keyHash P (.ofString "__weakref__"), .str (.ofString "__weakref__") (355 : Nat), .ref (114 : Nat)⟩) :: (⟨PyData.keyHash P (.ofString "__doc__"), .str (.ofString "__doc__") (356 : Nat), .none⟩) :: [])) (4 : Nat), (List.toArray [])⟩
noncomputable def o112 : Params → Obj := fun P => ⟨.type "type", Option.none, .cls { name := (.ofString "Numbered"), bases := [.type "object"], mro := [.ref (112 : Nat), .type "object"], ns := (111 : Nat), qualname := (.ofString "Numbered"), hasDict := true, slotNames := [], subclasses := [], abstract := false, collection := Option.none, hasDel := false }, (List.toArray [Option.none, Option.none, Option.some (.str (.ofString "Numbered") (311 : Nat)), Option.some (.str (.ofString "Numbered") (319 : Nat)), Option.some (.builtin "object.__new__"), Option.some (.bool true)])⟩
noncomputable def o113 : Params → Obj := fun P => ⟨.type "getset_descriptor", Option.none, .fields (List.toArray [.str (.ofString "__dict__") (352 : Nat), .ref (112 : Nat), .builtin "function.__dict__", .builtin "function.__dict__#set"]), (List.toArray [])⟩
noncomputable def o114 : Params → Obj := fun P => ⟨.type "getset_descriptor", Option.none, .fields (List.toArray [.str (.ofString "__weakref__") (354 : Nat), .ref (112 : Nat), .builtin "ExceptionGroup.__weakref__", .none]), (List.toArray [])⟩
noncomputable def o115 : Params → Obj := fun P => ⟨.type "super", Option.none, .fields (List.toArray [.ref (112 : Nat), .ref (112 : Nat), .ref (112 : Nat)]), (List.toArray [])⟩
noncomputable def o116 : Params → Obj := fun P => ⟨.type "builtin_function_or_method", Option.none, .fields (List.toArray [.builtin "object.__init_subclass__", .ref (112 : Nat)]), (List.toArray [])⟩
noncomputable def o117 : Params → Obj := fun P => ⟨.type "tuple", Option.none, .seq (List.toArray []) (0 : Nat), (List.toArray [])⟩
noncomputable def o118 : Params → Obj := fun P => ⟨.type "builtin_function_or_method", Option.none, .fields (List.toArray [.builtin "type.__prepare__", .type "type"]), (List.toArray [])⟩
noncomputable def o119 : Params → Obj := fun P => ⟨.type "dict", Option.none, .dict (List.toArray [⟨PyData.keyHash P (.ofString "__module__"), .str (.ofString "__module__") (370 : Nat), .str (.ofString "gasledger.setting") (359 : Nat)⟩, ⟨PyData.keyHash P (.ofString "__qualname__"), .str (.ofString "__qualname__") (372 : Nat), .str (.ofString "Setting") (371 : Nat)⟩, ⟨PyData.keyHash P (.ofString "__firstlineno__"), .str (.ofString "__firstlineno__") (374 : Nat), .int 52 (373 : Nat)⟩, ⟨PyData.keyHash P (.ofString "__init__"), .str (.ofString "__init__") (386 : Nat), .ref (130 : Nat)⟩, ⟨PyData.keyHash P (.ofString "__static_attributes__"), .str (.ofString "__static_attributes__") (392 : Nat), .ref (131 : Nat)⟩]) (5 : Nat), (List.toArray [])⟩
noncomputable def o120 : Params → Obj := fun P => ⟨.type "tuple", Option.none, .seq (List.toArray []) (0 : Nat), (List.toArray [])⟩
noncomputable def o121 : Params → Obj := fun P => ⟨.none, Option.none, .fields (List.toArray [.int 54 (0 : Nat), .int 4 (0 : Nat), .ref (129 : Nat)]), (List.toArray [])⟩
noncomputable def o122 : Params → Obj := fun P => ⟨.type "code", Option.none, .fields (List.toArray ((.str (.ofString "Setting") (365 : Nat)) :: (.str (.ofString "Setting") (366 : Nat)) :: (.str (.ofString "/claim/cut.py") (367 : Nat)) :: (.int 52 (0 : Nat)) :: (.int 0 (0 : Nat)) :: (.int 0 (0 : Nat)) :: (.int 0 (0 : Nat)) :: (.int 0 (0 : Nat)) :: (.ref (120 : Nat)) :: (.bool false) :: (.int 181 (0 : Nat)) :: (.ref (121 : Nat)) :: (.none) :: (.none) :: (.none) :: (.none) :: (.int 368 (0 : Nat)) :: (.int 52 (0 : Nat)) :: (.str (.ofString "/claim/cut.py") (369 : Nat)) :: [])), (List.toArray [])⟩
noncomputable def o123 : Params → Obj := fun P => ⟨.type "frame", Option.none, .plain, (List.toArray [Option.some (.ref (122 : Nat)), Option.some (.ref (3 : Nat)), Option.some (.ref (119 : Nat)), Option.none, Option.some (.str (.ofString "gasledger.setting") (359 : Nat)), Option.none, Option.some (.ref (0 : Nat))])⟩
noncomputable def o124 : Params → Obj := fun P => ⟨.type "tuple", Option.none, .seq (List.toArray []) (0 : Nat), (List.toArray [])⟩
noncomputable def o125 : Params → Obj := fun P => ⟨.none, Option.none, .fields (List.toArray []), (List.toArray [])⟩
noncomputable def o126 : Params → Obj := fun P => ⟨.type "tuple", Option.none, .seq (List.toArray [.str (.ofString "self") (378 : Nat), .str (.ofString "digest") (379 : Nat), .str (.ofString "curve") (380 : Nat), .str (.ofString "chain") (381 : Nat), .str (.ofString "most_depth") (382 : Nat), .str (.ofString "most_code") (383 : Nat)]) (0 : Nat), (List.toArray [])⟩
noncomputable def o127 : Params → Obj := fun P => ⟨.type "tuple", Option.none, .seq (List.toArray []) (0 : Nat), (List.toArray [])⟩
noncomputable def o128 : Params → Obj := fun P => ⟨.none, Option.none, .func { name := (.ofString "__init__"), qualname := (.ofString "Setting.__init__"), params := sA_17_0_true, body := .stmts sB_17_0_true, scope := sC_17_0_true, globals := (0 : Nat), closure := [], defaults := .none, kwdefaults := .none, doc := .none, pyModule := .none, annotations := Option.none, code := .none, closureTuple := .none, builtins := (0 : Nat) }, (List.toArray [])⟩
noncomputable def o129 : Params → Obj := fun P => ⟨.type "code", Option.none, .fields (List.toArray ((.str (.ofString "__init__") (375 : Nat)) :: (.str (.ofString "Setting.__init__") (376 : Nat)) :: (.str (.ofString "/claim/cut.py") (377 : Nat)) :: (.int 54 (0 : Nat)) :: (.int 6 (0 : Nat)) :: (.int 0 (0 : Nat)) :: (.int 0 (0 : Nat)) :: (.int 3 (0 : Nat)) :: (.ref (124 : Nat)) :: (.bool true) :: (.int 181 (0 : Nat)) :: (.ref (125 : Nat)) :: (.none) :: (.ref (126 : Nat)) :: (.ref (127 : Nat)) :: (.ref (128 : Nat)) :: (.int 384 (0 : Nat)) :: (.int 54 (0 : Nat)) :: (.str (.ofString "/claim/cut.py") (385 : Nat)) :: [])), (List.toArray [])⟩
noncomputable def o130 : Params → Obj := fun P => ⟨.type "function", Option.none, .func { name := (.ofString "__init__"), qualname := (.ofString "Setting.__init__"), params := sA_17_0_true, body := .stmts sB_17_0_true, scope := sC_17_0_true, globals := (3 : Nat), closure := [], defaults := .none, kwdefaults := .none, doc := .none, pyModule := .str (.ofString "gasledger.setting") (359 : Nat), annotations := Option.none, code := .ref (129 : Nat), closureTuple := .none, builtins := (0 : Nat) }, (List.toArray [])⟩
noncomputable def o131 : Params → Obj := fun P => ⟨.type "tuple", Option.none, .seq (List.toArray [.str (.ofString "chain") (387 : Nat), .str (.ofString "curve") (388 : Nat), .str (.ofString "digest") (389 : Nat), .str (.ofString "most_code") (390 : Nat), .str (.ofString "most_depth") (391 : Nat)]) (0 : Nat), (List.toArray [])⟩
noncomputable def o132 : Params → Obj := fun P => ⟨.type "dict", Option.none, .dict (List.toArray [⟨PyData.keyHash P (.ofString "__module__"), .str (.ofString "__module__") (370 : Nat), .str (.ofString "gasledger.setting") (359 : Nat)⟩, ⟨PyData.keyHash P (.ofString "__firstlineno__"), .str (.ofString "__firstlineno__") (374 : Nat), .int 52 (373 : Nat)⟩, ⟨PyData.keyHash P (.ofString "__init__"), .str (.ofString "__init__") (386 : Nat), .ref (130 : Nat)⟩, ⟨PyData.keyHash P (.ofString "__static_attributes__"), .str (.ofString "__static_attributes__") (392 : Nat), .ref (131 : Nat)⟩, ⟨PyData.keyHash P (.ofString "__dict__"), .str (.ofString "__dict__") (394 : Nat), .ref (134 : Nat)⟩, ⟨PyData.keyHash P (.ofString "__weakref__"), .str (.ofString "__weakref__") (396 : Nat), .ref (135 : Nat)⟩, ⟨PyData.keyHash P (.ofString "__doc__"), .str (.ofString "__doc__") (397 : Nat), .none⟩]) (4 : Nat), (List.toArray [])⟩
noncomputable def o133 : Params → Obj := fun P => ⟨.type "type", Option.none, .cls { name := (.ofString "Setting"), bases := [.type "object"], mro := [.ref (133 : Nat), .type "object"], ns := (132 : Nat), qualname := (.ofString "Setting"), hasDict := true, slotNames := [], subclasses := [], abstract := false, collection := Option.none, hasDel := false }, (List.toArray [Option.none, Option.none, Option.some (.str (.ofString "Setting") (363 : Nat)), Option.some (.str (.ofString "Setting") (371 : Nat)), Option.some (.builtin "object.__new__"), Option.some (.bool true)])⟩
noncomputable def o134 : Params → Obj := fun P => ⟨.type "getset_descriptor", Option.none, .fields (List.toArray [.str (.ofString "__dict__") (393 : Nat), .ref (133 : Nat), .builtin "function.__dict__", .builtin "function.__dict__#set"]), (List.toArray [])⟩
noncomputable def o135 : Params → Obj := fun P => ⟨.type "getset_descriptor", Option.none, .fields (List.toArray [.str (.ofString "__weakref__") (395 : Nat), .ref (133 : Nat), .builtin "ExceptionGroup.__weakref__", .none]), (List.toArray [])⟩
noncomputable def o136 : Params → Obj := fun P => ⟨.type "super", Option.none, .fields (List.toArray [.ref (133 : Nat), .ref (133 : Nat), .ref (133 : Nat)]), (List.toArray [])⟩
noncomputable def o137 : Params → Obj := fun P => ⟨.type "builtin_function_or_method", Option.none, .fields (List.toArray [.builtin "object.__init_subclass__", .ref (133 : Nat)]), (List.toArray [])⟩
noncomputable def o138 : Params → Obj := fun P => ⟨.type "tuple", Option.none, .seq (List.toArray []) (0 : Nat), (List.toArray [])⟩
noncomputable def o139 : Params → Obj := fun P => ⟨.type "builtin_function_or_method", Option.none, .fields (List.toArray [.builtin "type.__prepare__", .type "type"]), (List.toArray [])⟩
noncomputable def o140 : Params → Obj := fun P => ⟨.type "dict", Option.none, .dict (List.toArray [⟨PyData.keyHash P (.ofString "__module__"), .str (.ofString "__module__") (409 : Nat), .str (.ofString "gasledger.account") (400 : Nat)⟩, ⟨PyData.keyHash P (.ofString "__qualname__"), .str (.ofString "__qualname__") (411 : Nat), .str (.ofString "Account") (410 : Nat)⟩, ⟨PyData.keyHash P (.ofString "__firstlineno__"), .str (.ofString "__firstlineno__") (413 : Nat), .int 63 (412 : Nat)⟩, ⟨PyData.keyHash P (.ofString "__init__"), .str (.ofString "__init__") (424 : Nat), .ref (151 : Nat)⟩, ⟨PyData.keyHash P (.ofString "__static_attributes__"), .str (.ofString "__static_attributes__") (429 : Nat), .ref (152 : Nat)⟩]) (5 : Nat), (List.toArray [])⟩
noncomputable def o141 : Params → Obj := fun P => ⟨.type "tuple", Option.none, .seq (List.toArray []) (0 : Nat), (List.toArray [])⟩
noncomputable def o142 : Params → Obj := fun P => ⟨.none, Option.none, .fields (List.toArray [.int 65 (0 : Nat), .int 4 (0 : Nat), .ref (150 : Nat)]), (List.toArray [])⟩
noncomputable def o143 : Params → Obj := fun P => ⟨.type "code", Option.none, .fields (List.toArray ((.str (.ofString "Account") (404 : Nat)) :: (.str (.ofString "Account") (405 : Nat)) :: (.str (.ofString "/claim/cut.py") (406 : Nat)) :: (.int 63 (0 : Nat)) :: (.int 0 (0 : Nat)) :: (.int 0 (0 : Nat)) :: (.int 0 (0 : Nat)) :: (.int 0 (0 : Nat)) :: (.ref (141 : Nat)) :: (.bool false) :: (.int 181 (0 : Nat)) :: (.ref (142 : Nat)) :: (.none) :: (.none) :: (.none) :: (.none) :: (.int 407 (0 : Nat)) :: (.int 63 (0 : Nat)) :: (.str (.ofString "/claim/cut.py") (408 : Nat)) :: [])), (List.toArray [])⟩
noncomputable def o144 : Params → Obj := fun P => ⟨.type "frame", Option.none, .plain, (List.toArray [Option.some (.ref (143 : Nat)), Option.some (.ref (3 : Nat)), Option.some (.ref (140 : Nat)), Option.none, Option.some (.str (.ofString "gasledger.account") (400 : Nat)), Option.none, Option.some (.ref (0 : Nat))])⟩
noncomputable def o145 : Params → Obj := fun P => ⟨.type "tuple", Option.none, .seq (List.toArray []) (0 : Nat), (List.toArray [])⟩
noncomputable def o146 : Params → Obj := fun P => ⟨.none, Option.none, .fields (List.toArray []), (List.toArray [])⟩
noncomputable def o147 : Params → Obj := fun P => ⟨.type "tuple", Option.none, .seq (List.toArray [.str (.ofString "self") (417 : Nat), .str (.ofString "nonce") (418 : Nat), .str (.ofString "balance") (419 : Nat), .str (.ofString "code") (420 : Nat), .str (.ofString "storage") (421 : Nat)]) (0 : Nat), (List.toArray [])⟩
noncomputable def o148 : Params → Obj := fun P => ⟨.type "tuple", Option.none, .seq (List.toArray []) (0 : Nat), (List.toArray [])⟩
noncomputable def o149 : Params → Obj := fun P => ⟨.none, Option.none, .func { name := (.ofString "__init__"), qualname := (.ofString "Account.__init__"), params := sA_19_0_true, body := .stmts sB_19_0_true, scope := sC_19_0_true, globals := (0 : Nat), closure := [], defaults := .none, kwdefaults := .none, doc := .none, pyModule := .none, annotations := Option.none, code := .none, closureTuple := .none, builtins := (0 : Nat) }, (List.toArray [])⟩
noncomputable def o150 : Params → Obj := fun P => ⟨.type "code", Option.none, .fields (List.toArray ((.str (.ofString "__init__") (414 : Nat)) :: (.str (.ofString "Account.__init__") (415 : Nat)) :: (.str (.ofString "/claim/cut.py") (416 : Nat)) :: (.int 65 (0 : Nat)) :: (.int 5 (0 : Nat)) :: (.int 0 (0 : Nat)) :: (.int 0 (0 : Nat)) :: (.int 3 (0 : Nat)) :: (.ref (145 : Nat)) :: (.bool true) :: (.int 181 (0 : Nat)) :: (.ref (146 : Nat)) :: (.none) :: (.ref (147 : Nat)) :: (.ref (148 : Nat)) :: (.ref (149 : Nat)) :: (.int 422 (0 : Nat)) :: (.int 65 (0 : Nat)) :: (.str (.ofString "/claim/cut.py") (423 : Nat)) :: [])), (List.toArray [])⟩
noncomputable def o151 : Params → Obj := fun P => ⟨.type "function", Option.none, .func { name := (.ofString "__init__"), qualname := (.ofString "Account.__init__"), params := sA_19_0_true, body := .stmts sB_19_0_true, scope := sC_19_0_true, globals := (3 : Nat), closure := [], defaults := .none, kwdefaults := .none, doc := .none, pyModule := .str (.ofString "gasledger.account") (400 : Nat), annotations := Option.none, code := .ref (150 : Nat), closureTuple := .none, builtins := (0 : Nat) }, (List.toArray [])⟩
noncomputable def o152 : Params → Obj := fun P => ⟨.type "tuple", Option.none, .seq (List.toArray [.str (.ofString "balance") (425 : Nat), .str (.ofString "code") (426 : Nat), .str (.ofString "nonce") (427 : Nat), .str (.ofString "storage") (428 : Nat)]) (0 : Nat), (List.toArray [])⟩
noncomputable def o153 : Params → Obj := fun P => ⟨.type "dict", Option.none, .dict (List.toArray [⟨PyData.keyHash P (.ofString "__module__"), .str (.ofString "__module__") (409 : Nat), .str (.ofString "gasledger.account") (400 : Nat)⟩, ⟨PyData.keyHash P (.ofString "__firstlineno__"), .str (.ofString "__firstlineno__") (413 : Nat), .int 63 (412 : Nat)⟩, ⟨PyData.keyHash P (.ofString "__init__"), .str (.ofString "__init__") (424 : Nat), .ref (151 : Nat)⟩, ⟨PyData.keyHash P (.ofString "__static_attributes__"), .str (.ofString "__static_attributes__") (429 : Nat), .ref (152 : Nat)⟩, ⟨PyData.keyHash P (.ofString "__dict__"), .str (.ofString "__dict__") (431 : Nat), .ref (155 : Nat)⟩, ⟨PyData.keyHash P (.ofString "__weakref__"), .str (.ofString "__weakref__") (433 : Nat), .ref (156 : Nat)⟩, ⟨PyData.keyHash P (.ofString "__doc__"), .str (.ofString "__doc__") (434 : Nat), .none⟩]) (4 : Nat), (List.toArray [])⟩
noncomputable def o154 : Params → Obj := fun P => ⟨.type "type", Option.none, .cls { name := (.ofString "Account"), bases := [.type "object"], mro := [.ref (154 : Nat), .type "object"], ns := (153 : Nat), qualname := (.ofString "Account"), hasDict := true, slotNames := [], subclasses := [], abstract := false, collection := Option.none, hasDel := false }, (List.toArray [Option.none, Option.none, Option.some (.str (.ofString "Account") (402 : Nat)), Option.some (.str (.ofString "Account") (410 : Nat)), Option.some (.builtin "object.__new__"), Option.some (.bool true)])⟩
noncomputable def o155 : Params → Obj := fun P => ⟨.type "getset_descriptor", Option.none, .fields (List.toArray [.str (.ofString "__dict__") (430 : Nat), .ref (154 : Nat), .builtin "function.__dict__", .builtin "function.__dict__#set"]), (List.toArray [])⟩
noncomputable def o156 : Params → Obj := fun P => ⟨.type "getset_descriptor", Option.none, .fields (List.toArray [.str (.ofString "__weakref__") (432 : Nat), .ref (154 : Nat), .builtin "ExceptionGroup.__weakref__", .none]), (List.toArray [])⟩
noncomputable def o157 : Params → Obj := fun P => ⟨.type "super", Option.none, .fields (List.toArray [.ref (154 : Nat), .ref (154 : Nat), .ref (154 : Nat)]), (List.toArray [])⟩
noncomputable def o158 : Params → Obj := fun P => ⟨.type "builtin_function_or_method", Option.none, .fields (List.toArray [.builtin "object.__init_subclass__", .ref (154 : Nat)]), (List.toArray [])⟩
noncomputable def o159 : Params → Obj := fun P => ⟨.type "tuple", Option.none, .seq (List.toArray []) (0 : Nat), (List.toArray [])⟩
noncomputable def o160 : Params → Obj := fun P => ⟨.none, Option.none, .fields (List.toArray []), (List.toArray [])⟩
noncomputable def o161 : Params → Obj := fun P => ⟨.type "tuple", Option.none, .seq (List.toArray []) (0 : Nat), (List.toArray [])⟩
noncomputable def o162 : Params → Obj := fun P => ⟨.type "tuple", Option.none, .seq (List.toArray []) (0 : Nat), (List.toArray [])⟩
noncomputable def o163 : Params → Obj := fun P => ⟨.none, Option.none, .func { name := (.ofString "no_account"), qualname := (.ofString "no_account"), params := sA_20_0_false, body := .stmts sB_20_0_false, scope := sC_20_0_false, globals := (0 : Nat), closure := [], defaults := .none, kwdefaults := .none, doc := .none, pyModule := .none, annotations := Option.none, code := .none, closureTuple := .none, builtins := (0 : Nat) }, (List.toArray [])⟩
noncomputable def o164 : Params → Obj := fun P => ⟨.type "code", Option.none, .fields (List.toArray ((.str (.ofString "no_account") (437 : Nat)) :: (.str (.ofString "no_account") (438 : Nat)) :: (.str (.ofString "/claim/cut.py") (439 : Nat)) :: (.int 70 (0 : Nat)) :: (.int 0 (0 : Nat)) :: (.int 0 (0 : Nat)) :: (.int 0 (0 : Nat)) :: (.int 3 (0 : Nat)) :: (.ref (159 : Nat)) :: (.bool true) :: (.int 181 (0 : Nat)) :: (.ref (160 : Nat)) :: (.none) :: (.ref (161 : Nat)) :: (.ref (162 : Nat)) :: (.ref (163 : Nat)) :: (.int 440 (0 : Nat)) :: (.int 70 (0 : Nat)) :: (.str (.ofString "/claim/cut.py") (441 : Nat)) :: [])), (List.toArray [])⟩
noncomputable def o165 : Params → Obj := fun P => ⟨.type "function", Option.none, .func { name := (.ofString "no_account"), qualname := (.ofString "no_account"), params := sA_20_0_false, body := .stmts sB_20_0_false, scope := sC_20_0_false, globals := (3 : Nat), closure := [], defaults := .none, kwdefaults := .none, doc := .none, pyModule := .str (.ofString "gasledger.account") (400 : Nat), annotations := Option.none, code := .ref (164 : Nat), closureTuple := .none, builtins := (0 : Nat) }, (List.toArray [])⟩
noncomputable def o166 : Params → Obj := fun P => ⟨.type "tuple", Option.none, .seq (List.toArray []) (0 : Nat), (List.toArray [])⟩
noncomputable def o167 : Params → Obj := fun P => ⟨.none, Option.none, .fields (List.toArray []), (List.toArray [])⟩
noncomputable def o168 : Params → Obj := fun P => ⟨.type "tuple", Option.none, .seq (List.toArray [.str (.ofString "account") (446 : Nat)]) (0 : Nat), (List.toArray [])⟩
noncomputable def o169 : Params → Obj := fun P => ⟨.type "tuple", Option.none, .seq (List.toArray []) (0 : Nat), (List.toArray [])⟩
noncomputable def o170 : Params → Obj := fun P => ⟨.none, Option.none, .func { name := (.ofString "is_empty_account"), qualname := (.ofString "is_empty_account"), params := sA_21_0_false, body := .stmts sB_21_0_false, scope := sC_21_0_false, globals := (0 : Nat), closure := [], defaults := .none, kwdefaults := .none, doc := .none, pyModule := .none, annotations := Option.none, code := .none, closureTuple := .none, builtins := (0 : Nat) }, (List.toArray [])⟩
noncomputable def o171 : Params → Obj := fun P => ⟨.type "code", Option.none, .fields (List.toArray ((.str (.ofString "is_empty_account") (443 : Nat)) :: (.str (.ofString "is_empty_account") (444 : Nat)) :: (.str (.ofString "/claim/cut.py") (445 : Nat)) :: (.int 72 (0 : Nat)) :: (.int 1 (0 : Nat)) :: (.int 0 (0 : Nat)) :: (.int 0 (0 : Nat)) :: (.int 3 (0 : Nat)) :: (.ref (166 : Nat)) :: (.bool true) :: (.int 181 (0 : Nat)) :: (.ref (167 : Nat)) :: (.none) :: (.ref (168 : Nat)) :: (.ref (169 : Nat)) :: (.ref (170 : Nat)) :: (.int 447 (0 : Nat)) :: (.int 72 (0 : Nat)) :: (.str (.ofString "/claim/cut.py") (448 : Nat)) :: [])), (List.toArray [])⟩
noncomputable def o172 : Params → Obj := fun P => ⟨.type "function", Option.none, .func { name := (.ofString "is_empty_account"), qualname := (.ofString "is_empty_account"), params := sA_21_0_false, body := .stmts sB_21_0_false, scope := sC_21_0_false, globals := (3 : Nat), closure := [], defaults := .none, kwdefaults := .none, doc := .none, pyModule := .str (.ofString "gasledger.account") (400 : Nat), annotations := Option.none, code := .ref (171 : Nat), closureTuple := .none, builtins := (0 : Nat) }, (List.toArray [])⟩
noncomputable def o173 : Params → Obj := fun P => ⟨.type "tuple", Option.none, .seq (List.toArray []) (0 : Nat), (List.toArray [])⟩
noncomputable def o174 : Params → Obj := fun P => ⟨.none, Option.none, .fields (List.toArray []), (List.toArray [])⟩
noncomputable def o175 : Params → Obj := fun P => ⟨.type "tuple", Option.none, .seq (List.toArray [.str (.ofString "account") (453 : Nat), .str (.ofString "slot") (454 : Nat), .str (.ofString "word") (455 : Nat)]) (0 : Nat), (List.toArray [])⟩
noncomputable def o176 : Params → Obj := fun P => ⟨.type "tuple", Option.none, .seq (List.toArray []) (0 : Nat), (List.toArray [])⟩
noncomputable def o177 : Params → Obj := fun P => ⟨.none, Option.none, .func { name := (.ofString "put_slot"), qualname := (.ofString "put_slot"), params := sA_22_0_false, body := .stmts sB_22_0_false, scope := sC_22_0_false, globals := (0 : Nat), closure := [], defaults := .none, kwdefaults := .none, doc := .none, pyModule := .none, annotations := Option.none, code := .none, closureTuple := .none, builtins := (0 : Nat) }, (List.toArray [])⟩
noncomputable def o178 : Params → Obj := fun P => ⟨.type "code", Option.none, .fields (List.toArray ((.str (.ofString "put_slot") (450 : Nat)) :: (.str (.ofString "put_slot") (451 : Nat)) :: (.str (.ofString "/claim/cut.py") (452 : Nat)) :: (.int 74 (0 : Nat)) :: (.int 3 (0 : Nat)) :: (.int 0 (0 : Nat)) :: (.int 0 (0 : Nat)) :: (.int 3 (0 : Nat)) :: (.ref (173 : Nat)) :: (.bool true) :: (.int 181 (0 : Nat)) :: (.ref (174 : Nat)) :: (.none) :: (.ref (175 : Nat)) :: (.ref (176 : Nat)) :: (.ref (177 : Nat)) :: (.int 456 (0 : Nat)) :: (.int 74 (0 : Nat)) :: (.str (.ofString "/claim/cut.py") (457 : Nat)) :: [])), (List.toArray [])⟩
noncomputable def o179 : Params → Obj := fun P => ⟨.type "function", Option.none, .func { name := (.ofString "put_slot"), qualname := (.ofString "put_slot"), params := sA_22_0_false, body := .stmts sB_22_0_false, scope := sC_22_0_false, globals := (3 : Nat), closure := [], defaults := .none, kwdefaults := .none, doc := .none, pyModule := .str (.ofString "gasledger.account") (400 : Nat), annotations := Option.none, code := .ref (178 : Nat), closureTuple := .none, builtins := (0 : Nat) }, (List.toArray [])⟩
noncomputable def o180 : Params → Obj := fun P => ⟨.type "tuple", Option.none, .seq (List.toArray []) (0 : Nat), (List.toArray [])⟩
noncomputable def o181 : Params → Obj := fun P => ⟨.type "builtin_function_or_method", Option.none, .fields (List.toArray [.builtin "type.__prepare__", .type "type"]), (List.toArray [])⟩
noncomputable def o182 : Params → Obj := fun P => ⟨.type "dict", Option.none, .dict (List.toArray [⟨PyData.keyHash P (.ofString "__module__"), .str (.ofString "__module__") (468 : Nat), .str (.ofString "gasledger.journal") (459 : Nat)⟩, ⟨PyData.keyHash P (.ofString "__qualname__"), .str (.ofString "__qualname__") (470 : Nat), .str (.ofString "Row") (469 : Nat)⟩, ⟨PyData.keyHash P (.ofString "__firstlineno__"), .str (.ofString "__firstlineno__") (472 : Nat), .int 80 (471 : Nat)⟩, ⟨PyData.keyHash P (.ofString "__init__"), .str (.ofString "__init__") (483 : Nat), .ref (193 : Nat)⟩, ⟨PyData.keyHash P (.ofString "__static_attributes__"), .str (.ofString "__static_attributes__") (488 : Nat), .ref (194 : Nat)⟩]) (5 : Nat), (List.toArray [])⟩
noncomputable def o183 : Params → Obj := fun P => ⟨.type "tuple", Option.none, .seq (List.toArray []) (0 : Nat), (List.toArray [])⟩
noncomputable def o184 : Params → Obj := fun P => ⟨.none, Option.none, .fields (List.toArray [.int 82 (0 : Nat), .int 4 (0 : Nat), .ref (192 : Nat)]), (List.toArray [])⟩
noncomputable def o185 : Params → Obj := fun P => ⟨.type "code", Option.none, .fields (List.toArray ((.str (.ofString "Row") (463 : Nat)) :: (.str (.ofString "Row") (464 : Nat)) :: (.str (.ofString "/claim/cut.py") (465 : Nat)) :: (.int 80 (0 : Nat)) :: (.int 0 (0 : Nat)) :: (.int 0 (0 : Nat)) :: (.int 0 (0 : Nat)) :: (.int 0 (0 : Nat)) :: (.ref (183 : Nat)) :: (.bool false) :: (.int 181 (0 : Nat)) :: (.ref (184 : Nat)) :: (.none) :: (.none) :: (.none) :: (.none) :: (.int 466 (0 : Nat)) :: (.int 80 (0 : Nat)) :: (.str (.ofString "/claim/cut.py") (467 : Nat)) :: [])), (List.toArray [])⟩
noncomputable def o186 : Params → Obj := fun P => ⟨.type "frame", Option.none, .plain, (List.toArray [Option.some (.ref (185 : Nat)), Option.some (.ref (3 : Nat)), Option.some (.ref (182 : Nat)), Option.none, Option.some (.str (.ofString "gasledger.journal") (459 : Nat)), Option.none, Option.some (.ref (0 : Nat))])⟩
noncomputable def o187 : Params → Obj := fun P => ⟨.type "tuple", Option.none, .seq (List.toArray []) (0 : Nat), (List.toArray [])⟩
noncomputable def o188 : Params → Obj := fun P => ⟨.none, Option.none, .fields (List.toArray []), (List.toArray [])⟩
noncomputable def o189 : Params → Obj := fun P => ⟨.type "tuple", Option.none, .seq (List.toArray [.str (.ofString "self") (476 : Nat), .str (.ofString "kind") (477 : Nat), .str (.ofString "address") (478 : Nat), .str (.ofString "key") (479 : Nat), .str (.ofString "old") (480 : Nat)]) (0 : Nat), (List.toArray [])⟩
noncomputable def o190 : Params → Obj := fun P => ⟨.type "tuple", Option.none, .seq (List.toArray []) (0 : Nat), (List.toArray [])⟩
noncomputable def o191 : Params → Obj := fun P => ⟨.none, Option.none, .func { name := (.ofString "__init__"), qualname := (.ofString "Row.__init__"), params := sA_24_0_true, body := .stmts sB_24_0_true, scope := sC_24_0_true, globals := (0 : Nat), closure := [], defaults := .none, kwdefaults := .none, doc := .none, pyModule := .none, annotations := Option.none, code := .none, closureTuple := .none, builtins := (0 : Nat) }, (List.toArray [])⟩
noncomputable def o192 : Params → Obj := fun P => ⟨.type "code", Option.none, .fields (List.toArray ((.str (.ofString "__init__") (473 : Nat)) :: (.str (.ofString "Row.__init__") (474 : Nat)) :: (.str (.ofString "/claim/cut.py") (475 : Nat)) :: (.int 82 (0 : Nat)) :: (.int 5 (0 : Nat)) :: (.int 0 (0 : Nat)) :: (.int 0 (0 : Nat)) :: (.int 3 (0 : Nat)) :: (.ref (187 : Nat)) :: (.bool true) :: (.int 181 (0 : Nat)) :: (.ref (188 : Nat)) :: (.none) :: (.ref (189 : Nat)) :: (.ref (190 : Nat)) :: (.ref (191 : Nat)) :: (.int 481 (0 : Nat)) :: (.int 82 (0 : Nat)) :: (.str (.ofString "/claim/cut.py") (482 : Nat)) :: [])), (List.toArray [])⟩
noncomputable def o193 : Params → Obj := fun P => ⟨.type "function", Option.none, .func { name := (.ofString "__init__"), qualname := (.ofString "Row.__init__"), params := sA_24_0_true, body := .stmts sB_24_0_true, scope := sC_24_0_true, globals := (3 : Nat), closure := [], defaults := .none, kwdefaults := .none, doc := .none, pyModule := .str (.ofString "gasledger.journal") (459 : Nat), annotations := Option.none, code := .ref (192 : Nat), closureTuple := .none, builtins := (0 : Nat) }, (List.toArray [])⟩
noncomputable def o194 : Params → Obj := fun P => ⟨.type "tuple", Option.none, .seq (List.toArray [.str (.ofString "address") (484 : Nat), .str (.ofString "key") (485 : Nat), .str (.ofString "kind") (486 : Nat), .str (.ofString "old") (487 : Nat)]) (0 : Nat), (List.toArray [])⟩
noncomputable def o195 : Params → Obj := fun P => ⟨.type "dict", Option.none, .dict (List.toArray [⟨PyData.keyHash P (.ofString "__module__"), .str (.ofString "__module__") (468 : Nat), .str (.ofString "gasledger.journal") (459 : Nat)⟩, ⟨PyData.keyHash P (.ofString "__firstlineno__"), .str (.ofString "__firstlineno__") (472 : Nat), .int 80 (471 : Nat)⟩, ⟨PyData.keyHash P (.ofString "__init__"), .str (.ofString "__init__") (483 : Nat), .ref (193 : Nat)⟩, ⟨PyData.keyHash P (.ofString "__static_attributes__"), .str (.ofString "__static_attributes__") (488 : Nat), .ref (194 : Nat)⟩, ⟨PyData.keyHash P (.ofString "__dict__"), .str (.ofString "__dict__") (490 : Nat), .ref (197 : Nat)⟩, ⟨PyData.keyHash P (.ofString "__weakref__"), .str (.ofString "__weakref__") (492 : Nat), .ref (198 : Nat)⟩, ⟨PyData.keyHash P (.ofString "__doc__"), .str (.ofString "__doc__") (493 : Nat), .none⟩]) (4 : Nat), (List.toArray [])⟩
noncomputable def o196 : Params → Obj := fun P => ⟨.type "type", Option.none, .cls { name := (.ofString "Row"), bases := [.type "object"], mro := [.ref (196 : Nat), .type "object"], ns := (195 : Nat), qualname := (.ofString "Row"), hasDict := true, slotNames := [], subclasses := [], abstract := false, collection := Option.none, hasDel := false }, (List.toArray [Option.none, Option.none, Option.some (.str (.ofString "Row") (461 : Nat)), Option.some (.str (.ofString "Row") (469 : Nat)), Option.some (.builtin "object.__new__"), Option.some (.bool true)])⟩
noncomputable def o197 : Params → Obj := fun P => ⟨.type "getset_descriptor", Option.none, .fields (List.toArray [.str (.ofString "__dict__") (489 : Nat), .ref (196 : Nat), .builtin "function.__dict__", .builtin "function.__dict__#set"]), (List.toArray [])⟩
noncomputable def o198 : Params → Obj := fun P => ⟨.type "getset_descriptor", Option.none, .fields (List.toArray [.str (.ofString "__weakref__") (491 : Nat), .ref (196 : Nat), .builtin "ExceptionGroup.__weakref__", .none]), (List.toArray [])⟩
noncomputable def o199 : Params → Obj := fun P => ⟨.type "super", Option.none, .fields (List.toArray [.ref (196 : Nat), .ref (196 : Nat), .ref (196 : Nat)]), (List.toArray [])⟩
noncomputable def o200 : Params → Obj := fun P => ⟨.type "builtin_function_or_method", Option.none, .fields (List.toArray [.builtin "object.__init_subclass__", .ref (196 : Nat)]), (List.toArray [])⟩
noncomputable def o201 : Params → Obj := fun P => ⟨.type "tuple", Option.none, .seq (List.toArray []) (0 : Nat), (List.toArray [])⟩
noncomputable def o202 : Params → Obj := fun P => ⟨.none, Option.none, .fields (List.toArray []), (List.toArray [])⟩
noncomputable def o203 : Params → Obj := fun P => ⟨.type "tuple", Option.none, .seq (List.toArray [.str (.ofString "account") (499 : Nat), .str (.ofString "row") (500 : Nat)]) (0 : Nat), (List.toArray [])⟩
noncomputable def o204 : Params → Obj := fun P => ⟨.type "tuple", Option.none, .seq (List.toArray []) (0 : Nat), (List.toArray [])⟩
noncomputable def o205 : Params → Obj := fun P => ⟨.none, Option.none, .func { name := (.ofString "undone_value"), qualname := (.ofString "undone_value"), params := sA_25_0_false, body := .stmts sB_25_0_false, scope := sC_25_0_false, globals := (0 : Nat), closure := [], defaults := .none, kwdefaults := .none, doc := .none, pyModule := .none, annotations := Option.none, code := .none, closureTuple := .none, builtins := (0 : Nat) }, (List.toArray [])⟩
noncomputable def o206 : Params → Obj := fun P => ⟨.type "code", Option.none, .fields (List.toArray ((.str (.ofString "undone_value") (496 : Nat)) :: (.str (.ofString "undone_value") (497 : Nat)) :: (.str (.ofString "/claim/cut.py") (498 : Nat)) :: (.int 87 (0 : Nat)) :: (.int 2 (0 : Nat)) :: (.int 0 (0 : Nat)) :: (.int 0 (0 : Nat)) :: (.int 3 (0 : Nat)) :: (.ref (201 : Nat)) :: (.bool true) :: (.int 181 (0 : Nat)) :: (.ref (202 : Nat)) :: (.none) :: (.ref (203 : Nat)) :: (.ref (204 : Nat)) :: (.ref (205 : Nat)) :: (.int 501 (0 : Nat)) :: (.int 87 (0 : Nat)) :: (.str (.ofString "/claim/cut.py") (502 : Nat)) :: [])), (List.toArray [])⟩
noncomputable def o207 : Params → Obj := fun P => ⟨.type "function", Option.none, .func { name := (.ofString "undone_value"), qualname := (.ofString "undone_value"), params := sA_25_0_false, body := .stmts sB_25_0_false, scope := sC_25_0_false, globals := (3 : Nat), closure := [], defaults := .none, kwdefaults := .none, doc := .none, pyModule := .str (.ofString "gasledger.journal") (459 : Nat), annotations := Option.none, code := .ref (206 : Nat), closureTuple := .none, builtins := (0 : Nat) }, (List.toArray [])⟩
noncomputable def o208 : Params → Obj := fun P => ⟨.type "tuple", Option.none, .seq (List.toArray []) (0 : Nat), (List.toArray [])⟩
noncomputable def o209 : Params → Obj := fun P => ⟨.none, Option.none, .fields (List.toArray []), (List.toArray [])⟩
noncomputable def o210 : Params → Obj := fun P => ⟨.type "tuple", Option.none, .seq (List.toArray [.str (.ofString "state") (507 : Nat), .str (.ofString "row") (508 : Nat)]) (0 : Nat), (List.toArray [])⟩
noncomputable def o211 : Params → Obj := fun P => ⟨.type "tuple", Option.none, .seq (List.toArray []) (0 : Nat), (List.toArray [])⟩
noncomputable def o212 : Params → Obj := fun P => ⟨.none, Option.none, .func { name := (.ofString "undone"), qualname := (.ofString "undone"), params := sA_26_0_false, body := .stmts sB_26_0_false, scope := sC_26_0_false, globals := (0 : Nat), closure := [], defaults := .none, kwdefaults := .none, doc := .none, pyModule := .none, annotations := Option.none, code := .none, closureTuple := .none, builtins := (0 : Nat) }, (List.toArray [])⟩
noncomputable def o213 : Params → Obj := fun P => ⟨.type "code", Option.none, .fields (List.toArray ((.str (.ofString "undone") (504 : Nat)) :: (.str (.ofString "undone") (505 : Nat)) :: (.str (.ofString "/claim/cut.py") (506 : Nat)) :: (.int 96 (0 : Nat)) :: (.int 2 (0 : Nat)) :: (.int 0 (0 : Nat)) :: (.int 0 (0 : Nat)) :: (.int 3 (0 : Nat)) :: (.ref (208 : Nat)) :: (.bool true) :: (.int 181 (0 : Nat)) :: (.ref (209 : Nat)) :: (.none) :: (.ref (210 : Nat)) :: (.ref (211 : Nat)) :: (.ref (212 : Nat)) :: (.int 509 (0 : Nat)) :: (.int 96 (0 : Nat)) :: (.str (.ofString "/claim/cut.py") (510 : Nat)) :: [])), (List.toArray [])⟩
noncomputable def o214 : Params → Obj := fun P => ⟨.type "function", Option.none, .func { name := (.ofString "undone"), qualname := (.ofString "undone"), params := sA_26_0_false, body := .stmts sB_26_0_false, scope := sC_26_0_false, globals := (3 : Nat), closure := [], defaults := .none, kwdefaults := .none, doc := .none, pyModule := .str (.ofString "gasledger.journal") (459 : Nat), annotations := Option.none, code := .ref (213 : Nat), closureTuple := .none, builtins := (0 : Nat) }, (List.toArray [])⟩
noncomputable def o215 : Params → Obj := fun P => ⟨.type "tuple", Option.none, .seq (List.toArray []) (0 : Nat), (List.toArray [])⟩
noncomputable def o216 : Params → Obj := fun P => ⟨.type "builtin_function_or_method", Option.none, .fields (List.toArray [.builtin "type.__prepare__", .type "type"]), (List.toArray [])⟩
noncomputable def o217 : Params → Obj := fun P => ⟨.type "dict", Option.none, .dict (List.toArray ((⟨PyData.keyHash P (.ofString "__module__"), .str (.ofString "__module__") (521 : Nat), .str (.ofString "gasledger.state") (512 : Nat)⟩) :: (⟨PyData.keyHash P (.ofString "__qualname__"), .str (.ofString "__qualname__") (523 : Nat), .str (.ofString "State") (522 : Nat)⟩) :: (⟨PyData.keyHash P (.ofString "__firstlineno__"), .str (.ofString "__firstlineno__") (525 : Nat), .int 114 (524 : Nat)⟩) :: (⟨PyData.keyHash P (.ofString "__init__"), .str (.ofString "__init__") (533 : Nat), .ref (228 : Nat)⟩) :: (⟨PyData.keyHash P (.ofString "account"), .str (.ofString "account") (541 : Nat), .ref (235 : Nat)⟩) :: (⟨PyData.keyHash P (.ofString "addresses"), .str (.ofString "addresses") (548 : Nat), .ref (242 : Nat)⟩) :: (⟨PyData.keyHash P (.ofString "total"), .str (.ofString "total") (554 : Nat), .ref (247 : Nat)⟩) :: (⟨PyData.keyHash P (.ofString "written"), .str (.ofString "written") (562 : Nat), .ref (254 : Nat)⟩) :: (⟨PyData.keyHash P (.ofString "touch"), .str (.ofString "touch") (570 : Nat), .ref (261 : Nat)⟩) :: (⟨PyData.keyHash P (.ofString "exists"), .str (.ofString "exists") (578 : Nat), .ref (268 : Nat)⟩) :: (⟨PyData.keyHash P (.ofString "is_empty"), .str (.ofString "is_empty") (586 : Nat), .ref (275 : Nat)⟩) :: (⟨PyData.keyHash P (.ofString "balance"), .str (.ofString "balance") (594 : Nat), .ref (282 : Nat)⟩) :: (⟨PyData.keyHash P (.ofString "set_balance"), .str (.ofString "set_balance") (604 : Nat), .ref (289 : Nat)⟩) :: (⟨PyData.keyHash P (.ofString "moved"), .str (.ofString "moved") (614 : Nat), .ref (296 : Nat)⟩) :: (⟨PyData.keyHash P (.ofString "nonce"), .str (.ofString "nonce") (622 : Nat), .ref (303 : Nat)⟩) :: (⟨PyData.keyHash P (.ofString "set_nonce"), .str (.ofString "set_nonce") (632 : Nat), .ref (310 : Nat)⟩) :: (⟨PyData.keyHash P (.ofString "code"), .str (.ofString "code") (640 : Nat), .ref (317 : Nat)⟩) :: (⟨PyData.keyHash P (.ofString "set_code"), .str (.ofString "set_code") (650 : Nat), .ref (324 : Nat)⟩) :: (⟨PyData.keyHash P (.ofString "code_hash"), .str (.ofString "code_hash") (658 : Nat), .ref (331 : Nat)⟩) :: (⟨PyData.keyHash P (.ofString "slot"), .str (.ofString "slot") (667 : Nat), .ref (338 : Nat)⟩) :: (⟨PyData.keyHash P (.ofString "set_slot"), .str (.ofString "set_slot") (679 : Nat), .ref (345 : Nat)⟩) :: (⟨PyData.keyHash P (.ofString "original_slot"), .str (.ofString "original_slot") (688 : Nat), .ref (352 : Nat)⟩) :: (⟨PyData.keyHash P (.ofString "is_warm"), .str (.ofString "is_warm") (696 : Nat), .ref (359 : Nat)⟩) :: (⟨PyData.keyHash P (.ofString "warm"), .str (.ofString "warm") (704 : Nat), .ref (366 : Nat)⟩) :: (⟨PyData.keyHash P (.ofString "is_warm_slot"), .str (.ofString "is_warm_slot") (713 : Nat), .ref (373 : Nat)⟩) :: (⟨PyData.keyHash P (.ofString "warm_slot"), .str (.ofString "warm_slot") (722 : Nat), .ref (380 : Nat)⟩) :: (⟨PyData.keyHash P (.ofString "add_refund"), .str (.ofString "add_refund") (730 : Nat), .ref (387 : Nat)⟩) :: (⟨PyData.keyHash P (.ofString "add_log"), .str (.ofString "add_log") (738 : Nat), .ref (394 : Nat)⟩) :: (⟨PyData.keyHash P (.ofString "destroy"), .str (.ofString "destroy") (746 : Nat), .ref (401 : Nat)⟩) :: (⟨PyData.keyHash P (.ofString "is_destroyed"), .str (.ofString "is_destroyed") (754 : Nat), .ref (408 : Nat)⟩) :: (⟨PyData.keyHash P (.ofString "mark"), .str (.ofString "mark") (761 : Nat), .ref (415 : Nat)⟩) :: (⟨PyData.keyHash P (.ofString "back"), .str (.ofString "back") (769 : Nat), .ref (422 : Nat)⟩) :: (⟨PyData.keyHash P (.ofString "begin"), .str (.ofString "begin") (776 : Nat), .ref (429 : Nat)⟩) :: (⟨PyData.keyHash P (.ofString "end"), .str (.ofString "end") (784 : Nat), .ref (436 : Nat)⟩) :: (⟨PyData.keyHash P (.ofString "__static_attributes__"), .str (.ofString "__static_attributes__") (795 : Nat), .ref (437 : Nat)⟩) :: [])) (35 : Nat), (List.toArray [])⟩
noncomputable def o218 : Params → Obj := fun P => ⟨.type "tuple", Option.none, .seq (List.toArray []) (0 : Nat), (List.toArray [])⟩
noncomputable def o219 : Params → Obj := fun P => ⟨.none, Option.none, .fields (List.toArray ((.int 116 (0 : Nat)) :: (.int 4 (0 : Nat)) :: (.ref (227 : Nat)) :: (.int 128 (0 : Nat)) :: (.int 4 (0 : Nat)) :: (.ref (234 : Nat)) :: (.int 131 (0 : Nat)) :: (.int 4 (0 : Nat)) :: (.ref (241 : Nat)) :: (.int 134 (0 : Nat)) :: (.int 4 (0 : Nat)) :: (.ref (246 : Nat)) :: (.int 137 (0 : Nat)) :: (.int 4 (0 : Nat)) :: (.ref (253 : Nat)) :: (.int 146 (0 : Nat)) :: (.int 4 (0 : Nat)) :: (.ref (260 : Nat)) :: (.int 149 (0 : Nat)) :: (.int 4 (0 : Nat)) :: (.ref (267 : Nat)) :: (.int 152 (0 : Nat)) :: (.int 4 (0 : Nat)) :: (.ref (274 : Nat)) :: (.int 155 (0 : Nat)) :: (.int 4 (0 : Nat)) :: (.ref (281 : Nat)) :: (.int 158 (0 : Nat)) :: (.int 4 (0 : Nat)) :: (.ref (288 : Nat)) :: (.int 165 (0 : Nat)) :: (.int 4 (0 : Nat)) :: (.ref (295 : Nat)) :: (.int 168 (0 : Nat)) :: (.int 4 (0 : Nat)) :: (.ref (302 : Nat)) :: (.int 171 (0 : Nat)) :: (.int 4 (0 : Nat)) :: (.ref (309 : Nat)) :: (.int 176 (0 : Nat)) :: (.int 4 (0 : Nat)) :: (.ref (316 : Nat)) :: (.int 179 (0 : Nat)) :: (.int 4 (0 : Nat)) :: (.ref (323 : Nat)) :: (.int 184 (0 : Nat)) :: (.int 4 (0 : Nat)) :: (.ref (330 : Nat)) :: (.int 187 (0 : Nat)) :: (.int 4 (0 : Nat)) :: (.ref (337 : Nat)) :: (.int 190 (0 : Nat)) :: (.int 4 (0 : Nat)) :: (.ref (344 : Nat)) :: (.int 198 (0 : Nat)) :: (.int 4 (0 : Nat)) :: (.ref (351 : Nat)) :: (.int 201 (0 : Nat)) :: (.int 4 (0 : Nat)) :: (.ref (358 : Nat)) :: (.int 204 (0 : Nat)) :: (.int 4 (0 : Nat)) :: (.ref (365 : Nat)) :: (.int 209 (0 : Nat)) :: (.int 4 (0 : Nat)) :: (.ref (372 : Nat)) :: (.int 212 (0 : Nat)) :: (.int 4 (0 : Nat)) :: (.ref (379 : Nat)) :: (.int 217 (0 : Nat)) :: (.int 4 (0 : Nat)) :: (.ref (386 : Nat)) :: (.int 220 (0 : Nat)) :: (.int 4 (0 : Nat)) :: (.ref (393 : Nat)) :: (.int 223 (0 : Nat)) :: (.int 4 (0 : Nat)) :: (.ref (400 : Nat)) :: (.int 226 (0 : Nat)) :: (.int 4 (0 : Nat)) :: (.ref (407 : Nat)) :: (.int 229 (0 : Nat)) :: (.int 4 (0 : Nat)) :: (.ref (414 : Nat)) :: (.int 232 (0 : Nat)) :: (.int 4 (0 : Nat)) :: (.ref (421 : Nat)) :: (.int 238 (0 : Nat)) :: (.int 4 (0 : Nat)) :: (.ref (428 : Nat)) :: (.int 243 (0 : Nat)) :: (.int 4 (0 : Nat)) :: (.ref (435 : Nat)) :: [])), (List.toArray [])⟩
noncomputable def o220 : Params → Obj := fun P => ⟨.type "code", Option.none, .fields (List.toArray ((.str (.ofString "State") (516 : Nat)) :: (.str (.ofString "State") (517 : Nat)) :: (.str (.ofString "/claim/cut.py") (518 : Nat)) :: (.int 114 (0 : Nat)) :: (.int 0 (0 : Nat)) :: (.int 0 (0 : Nat)) :: (.int 0 (0 : Nat)) :: (.int 0 (0 : Nat)) :: (.ref (218 : Nat)) :: (.bool false) :: (.int 181 (0 : Nat)) :: (.ref (219 : Nat)) :: (.none) :: (.none) :: (.none) :: (.none) :: (.int 519 (0 : Nat)) :: (.int 114 (0 : Nat)) :: (.str (.ofString "/claim/cut.py") (520 : Nat)) :: [])), (List.toArray [])⟩
noncomputable def o221 : Params → Obj := fun P => ⟨.type "frame", Option.none, .plain, (List.toArray [Option.some (.ref (220 : Nat)), Option.some (.ref (3 : Nat)), Option.some (.ref (217 : Nat)), Option.none, Option.some (.str (.ofString "gasledger.state") (512 : Nat)), Option.none, Option.some (.ref (0 : Nat))])⟩
noncomputable def o222 : Params → Obj := fun P => ⟨.type "tuple", Option.none, .seq (List.toArray []) (0 : Nat), (List.toArray [])⟩
noncomputable def o223 : Params → Obj := fun P => ⟨.none, Option.none, .fields (List.toArray []), (List.toArray [])⟩
noncomputable def o224 : Params → Obj := fun P => ⟨.type "tuple", Option.none, .seq (List.toArray [.str (.ofString "self") (529 : Nat), .str (.ofString "setting") (530 : Nat)]) (0 : Nat), (List.toArray [])⟩
noncomputable def o225 : Params → Obj := fun P => ⟨.type "tuple", Option.none, .seq (List.toArray []) (0 : Nat), (List.toArray [])⟩
noncomputable def o226 : Params → Obj := fun P => ⟨.none, Option.none, .func { name := (.ofString "__init__"), qualname := (.ofString "State.__init__"), params := sA_28_0_true, body := .stmts sB_28_0_true, scope := sC_28_0_true, globals := (0 : Nat), closure := [], defaults := .none, kwdefaults := .none, doc := .none, pyModule := .none, annotations := Option.none, code := .none, closureTuple := .none, builtins := (0 : Nat) }, (List.toArray [])⟩
noncomputable def o227 : Params → Obj := fun P => ⟨.type "code", Option.none, .fields (List.toArray ((.str (.ofString "__init__") (526 : Nat)) :: (.str (.ofString "State.__init__") (527 : Nat)) :: (.str (.ofString "/claim/cut.py") (528 : Nat)) :: (.int 116 (0 : Nat)) :: (.int 2 (0 : Nat)) :: (.int 0 (0 : Nat)) :: (.int 0 (0 : Nat)) :: (.int 3 (0 : Nat)) :: (.ref (222 : Nat)) :: (.bool true) :: (.int 181 (0 : Nat)) :: (.ref (223 : Nat)) :: (.none) :: (.ref (224 : Nat)) :: (.ref (225 : Nat)) :: (.ref (226 : Nat)) :: (.int 531 (0 : Nat)) :: (.int 116 (0 : Nat)) :: (.str (.ofString "/claim/cut.py") (532 : Nat)) :: [])), (List.toArray [])⟩
noncomputable def o228 : Params → Obj := fun P => ⟨.type "function", Option.none, .func { name := (.ofString "__init__"), qualname := (.ofString "State.__init__"), params := sA_28_0_true, body := .stmts sB_28_0_true, scope := sC_28_0_true, globals := (3 : Nat), closure := [], defaults := .none, kwdefaults := .none, doc := .none, pyModule := .str (.ofString "gasledger.state") (512 : Nat), annotations := Option.none, code := .ref (227 : Nat), closureTuple := .none, builtins := (0 : Nat) }, (List.toArray [])⟩
noncomputable def o229 : Params → Obj := fun P => ⟨.type "tuple", Option.none, .seq (List.toArray []) (0 : Nat), (List.toArray [])⟩
noncomputable def o230 : Params → Obj := fun P => ⟨.none, Option.none, .fields (List.toArray []), (List.toArray [])⟩
noncomputable def o231 : Params → Obj := fun P => ⟨.type "tuple", Option.none, .seq (List.toArray [.str (.ofString "self") (537 : Nat), .str (.ofString "address") (538 : Nat)]) (0 : Nat), (List.toArray [])⟩
noncomputable def o232 : Params → Obj := fun P => ⟨.type "tuple", Option.none, .seq (List.toArray []) (0 : Nat), (List.toArray [])⟩
noncomputable def o233 : Params → Obj := fun P => ⟨.none, Option.none, .func { name := (.ofString "account"), qualname := (.ofString "State.account"), params := sA_28_1_true, body := .stmts sB_28_1_true, scope := sC_28_1_true, globals := (0 : Nat), closure := [], defaults := .none, kwdefaults := .none, doc := .none, pyModule := .none, annotations := Option.none, code := .none, closureTuple := .none, builtins := (0 : Nat) }, (List.toArray [])⟩
noncomputable def o234 : Params → Obj := fun P => ⟨.type "code", Option.none, .fields (List.toArray ((.str (.ofString "account") (534 : Nat)) :: (.str (.ofString "State.account") (535 : Nat)) :: (.str (.ofString "/claim/cut.py") (536 : Nat)) :: (.int 128 (0 : Nat)) :: (.int 2 (0 : Nat)) :: (.int 0 (0 : Nat)) :: (.int 0 (0 : Nat)) :: (.int 3 (0 : Nat)) :: (.ref (229 : Nat)) :: (.bool true) :: (.int 181 (0 : Nat)) :: (.ref (230 : Nat)) :: (.none) :: (.ref (231 : Nat)) :: (.ref (232 : Nat)) :: (.ref (233 : Nat)) :: (.int 539 (0 : Nat)) :: (.int 128 (0 : Nat)) :: (.str (.ofString "/claim/cut.py") (540 : Nat)) :: [])), (List.toArray [])⟩
noncomputable def o235 : Params → Obj := fun P => ⟨.type "function", Option.none, .func { name := (.ofString "account"), qualname := (.ofString "State.account"), params := sA_28_1_true, body := .stmts sB_28_1_true, scope := sC_28_1_true, globals := (3 : Nat), closure := [], defaults := .none, kwdefaults := .none, doc := .none, pyModule := .str (.ofString "gasledger.state") (512 : Nat), annotations := Option.none, code := .ref (234 : Nat), closureTuple := .none, builtins := (0 : Nat) }, (List.toArray [])⟩
noncomputable def o236 : Params → Obj := fun P => ⟨.type "tuple", Option.none, .seq (List.toArray []) (0 : Nat), (List.toArray [])⟩
noncomputable def o237 : Params → Obj := fun P => ⟨.none, Option.none, .fields (List.toArray []), (List.toArray [])⟩
noncomputable def o238 : Params → Obj := fun P => ⟨.type "tuple", Option.none, .seq (List.toArray [.str (.ofString "self") (545 : Nat)]) (0 : Nat), (List.toArray [])⟩
noncomputable def o239 : Params → Obj := fun P => ⟨.type "tuple", Option.none, .seq (List.toArray []) (0 : Nat), (List.toArray [])⟩
noncomputable def o240 : Params → Obj := fun P => ⟨.none, Option.none, .func { name := (.ofString "addresses"), qualname := (.ofString "State.addresses"), params := sA_28_2_true, body := .stmts sB_28_2_true, scope := sC_28_2_true, globals := (0 : Nat), closure := [], defaults := .none, kwdefaults := .none, doc := .none, pyModule := .none, annotations := Option.none, code := .none, closureTuple := .none, builtins := (0 : Nat) }, (List.toArray [])⟩
noncomputable def o241 : Params → Obj := fun P => ⟨.type "code", Option.none, .fields (List.toArray ((.str (.ofString "addresses") (542 : Nat)) :: (.str (.ofString "State.addresses") (543 : Nat)) :: (.str (.ofString "/claim/cut.py") (544 : Nat)) :: (.int 131 (0 : Nat)) :: (.int 1 (0 : Nat)) :: (.int 0 (0 : Nat)) :: (.int 0 (0 : Nat)) :: (.int 3 (0 : Nat)) :: (.ref (236 : Nat)) :: (.bool true) :: (.int 181 (0 : Nat)) :: (.ref (237 : Nat)) :: (.none) :: (.ref (238 : Nat)) :: (.ref (239 : Nat)) :: (.ref (240 : Nat)) :: (.int 546 (0 : Nat)) :: (.int 131 (0 : Nat)) :: (.str (.ofString "/claim/cut.py") (547 : Nat)) :: [])), (List.toArray [])⟩
noncomputable def o242 : Params → Obj := fun P => ⟨.type "function", Option.none, .func { name := (.ofString "addresses"), qualname := (.ofString "State.addresses"), params := sA_28_2_true, body := .stmts sB_28_2_true, scope := sC_28_2_true, globals := (3 : Nat), closure := [], defaults := .none, kwdefaults := .none, doc := .none, pyModule := .str (.ofString "gasledger.state") (512 : Nat), annotations := Option.none, code := .ref (241 : Nat), closureTuple := .none, builtins := (0 : Nat) }, (List.toArray [])⟩
noncomputable def o243 : Params → Obj := fun P => ⟨.type "tuple", Option.none, .seq (List.toArray []) (0 : Nat), (List.toArray [])⟩
noncomputable def o244 : Params → Obj := fun P => ⟨.none, Option.none, .fields (List.toArray []), (List.toArray [])⟩
noncomputable def o245 : Params → Obj := fun P => ⟨.none, Option.none, .func { name := (.ofString "total"), qualname := (.ofString "State.total"), params := sA_28_3_true, body := .stmts sB_28_3_true, scope := sC_28_3_true, globals := (0 : Nat), closure := [], defaults := .none, kwdefaults := .none, doc := .none, pyModule := .none, annotations := Option.none, code := .none, closureTuple := .none, builtins := (0 : Nat) }, (List.toArray [])⟩
noncomputable def o246 : Params → Obj := fun P => ⟨.type "code", Option.none, .fields (List.toArray ((.str (.ofString "total") (549 : Nat)) :: (.str (.ofString "State.total") (550 : Nat)) :: (.str (.ofString "/claim/cut.py") (551 : Nat)) :: (.int 134 (0 : Nat)) :: (.int 1 (0 : Nat)) :: (.int 0 (0 : Nat)) :: (.int 0 (0 : Nat)) :: (.int 3 (0 : Nat)) :: (.ref (243 : Nat)) :: (.bool true) :: (.int 181 (0 : Nat)) :: (.ref (244 : Nat)) :: (.none) :: (.none) :: (.none) :: (.ref (245 : Nat)) :: (.int 552 (0 : Nat)) :: (.int 134 (0 : Nat)) :: (.str (.ofString "/claim/cut.py") (553 : Nat)) :: [])), (List.toArray [])⟩
noncomputable def o247 : Params → Obj := fun P => ⟨.type "function", Option.none, .func { name := (.ofString "total"), qualname := (.ofString "State.total"), params := sA_28_3_true, body := .stmts sB_28_3_true, scope := sC_28_3_true, globals := (3 : Nat), closure := [], defaults := .none, kwdefaults := .none, doc := .none, pyModule := .str (.ofString "gasledger.state") (512 : Nat), annotations := Option.none, code := .ref (246 : Nat), closureTuple := .none, builtins := (0 : Nat) }, (List.toArray [])⟩
noncomputable def o248 : Params → Obj := fun P => ⟨.type "tuple", Option.none, .seq (List.toArray []) (0 : Nat), (List.toArray [])⟩
noncomputable def o249 : Params → Obj := fun P => ⟨.none, Option.none, .fields (List.toArray []), (List.toArray [])⟩
noncomputable def o250 : Params → Obj := fun P => ⟨.type "tuple", Option.none, .seq (List.toArray [.str (.ofString "self") (558 : Nat), .str (.ofString "address") (559 : Nat)]) (0 : Nat), (List.toArray [])⟩
noncomputable def o251 : Params → Obj := fun P => ⟨.type "tuple", Option.none, .seq (List.toArray []) (0 : Nat), (List.toArray [])⟩
noncomputable def o252 : Params → Obj := fun P => ⟨.none, Option.none, .func { name := (.ofString "written"), qualname := (.ofString "State.written"), params := sA_28_4_true, body := .stmts sB_28_4_true, scope := sC_28_4_true, globals := (0 : Nat), closure := [], defaults := .none, kwdefaults := .none, doc := .none, pyModule := .none, annotations := Option.none, code := .none, closureTuple := .none, builtins := (0 : Nat) }, (List.toArray [])⟩
noncomputable def o253 : Params → Obj := fun P => ⟨.type "code", Option.none, .fields (List.toArray ((.str (.ofString "written") (555 : Nat)) :: (.str (.ofString "State.written") (556 : Nat)) :: (.str (.ofString "/claim/cut.py") (557 : Nat)) :: (.int 137 (0 : Nat)) :: (.int 2 (0 : Nat)) :: (.int 0 (0 : Nat)) :: (.int 0 (0 : Nat)) :: (.int 3 (0 : Nat)) :: (.ref (248 : Nat)) :: (.bool true) :: (.int 181 (0 : Nat)) :: (.ref (249 : Nat)) :: (.none) :: (.ref (250 : Nat)) :: (.ref (251 : Nat)) :: (.ref (252 : Nat)) :: (.int 560 (0 : Nat)) :: (.int 137 (0 : Nat)) :: (.str (.ofString "/claim/cut.py") (561 : Nat)) :: [])), (List.toArray [])⟩
noncomputable def o254 : Params → Obj := fun P => ⟨.type "function", Option.none, .func { name := (.ofString "written"), qualname := (.ofString "State.written"), params := sA_28_4_true, body := .stmts sB_28_4_true, scope := sC_28_4_true, globals := (3 : Nat), closure := [], defaults := .none, kwdefaults := .none, doc := .none, pyModule := .str (.ofString "gasledger.state") (512 : Nat), annotations := Option.none, code := .ref (253 : Nat), closureTuple := .none, builtins := (0 : Nat) }, (List.toArray [])⟩
noncomputable def o255 : Params → Obj := fun P => ⟨.type "tuple", Option.none, .seq (List.toArray []) (0 : Nat), (List.toArray [])⟩
noncomputable def o256 : Params → Obj := fun P => ⟨.none, Option.none, .fields (List.toArray []), (List.toArray [])⟩
noncomputable def o257 : Params → Obj := fun P => ⟨.type "tuple", Option.none, .seq (List.toArray [.str (.ofString "self") (566 : Nat), .str (.ofString "address") (567 : Nat)]) (0 : Nat), (List.toArray [])⟩
noncomputable def o258 : Params → Obj := fun P => ⟨.type "tuple", Option.none, .seq (List.toArray []) (0 : Nat), (List.toArray [])⟩
noncomputable def o259 : Params → Obj := fun P => ⟨.none, Option.none, .func { name := (.ofString "touch"), qualname := (.ofString "State.touch"), params := sA_28_5_true, body := .stmts sB_28_5_true, scope := sC_28_5_true, globals := (0 : Nat), closure := [], defaults := .none, kwdefaults := .none, doc := .none, pyModule := .none, annotations := Option.none, code := .none, closureTuple := .none, builtins := (0 : Nat) }, (List.toArray [])⟩
noncomputable def o260 : Params → Obj := fun P => ⟨.type "code", Option.none, .fields (List.toArray ((.str (.ofString "touch") (563 : Nat)) :: (.str (.ofString "State.touch") (564 : Nat)) :: (.str (.ofString "/claim/cut.py") (565 : Nat)) :: (.int 146 (0 : Nat)) :: (.int 2 (0 : Nat)) :: (.int 0 (0 : Nat)) :: (.int 0 (0 : Nat)) :: (.int 3 (0 : Nat)) :: (.ref (255 : Nat)) :: (.bool true) :: (.int 181 (0 : Nat)) :: (.ref (256 : Nat)) :: (.none) :: (.ref (257 : Nat)) :: (.ref (258 : Nat)) :: (.ref (259 : Nat)) :: (.int 568 (0 : Nat)) :: (.int 146 (0 : Nat)) :: (.str (.ofString "/claim/cut.py") (569 : Nat)) :: [])), (List.toArray [])⟩
noncomputable def o261 : Params → Obj := fun P => ⟨.type "function", Option.none, .func { name := (.ofString "touch"), qualname := (.ofString "State.touch"), params := sA_28_5_true, body := .stmts sB_28_5_true, scope := sC_28_5_true, globals := (3 : Nat), closure := [], defaults := .none, kwdefaults := .none, doc := .none, pyModule := .str (.ofString "gasledger.state") (512 : Nat), annotations := Option.none, code := .ref (260 : Nat), closureTuple := .none, builtins := (0 : Nat) }, (List.toArray [])⟩
noncomputable def o262 : Params → Obj := fun P => ⟨.type "tuple", Option.none, .seq (List.toArray []) (0 : Nat), (List.toArray [])⟩
noncomputable def o263 : Params → Obj := fun P => ⟨.none, Option.none, .fields (List.toArray []), (List.toArray [])⟩
noncomputable def o264 : Params → Obj := fun P => ⟨.type "tuple", Option.none, .seq (List.toArray [.str (.ofString "self") (574 : Nat), .str (.ofString "address") (575 : Nat)]) (0 : Nat), (List.toArray [])⟩
noncomputable def o265 : Params → Obj := fun P => ⟨.type "tuple", Option.none, .seq (List.toArray []) (0 : Nat), (List.toArray [])⟩
noncomputable def o266 : Params → Obj := fun P => ⟨.none, Option.none, .func { name := (.ofString "exists"), qualname := (.ofString "State.exists"), params := sA_28_6_true, body := .stmts sB_28_6_true, scope := sC_28_6_true, globals := (0 : Nat), closure := [], defaults := .none, kwdefaults := .none, doc := .none, pyModule := .none, annotations := Option.none, code := .none, closureTuple := .none, builtins := (0 : Nat) }, (List.toArray [])⟩
noncomputable def o267 : Params → Obj := fun P => ⟨.type "code", Option.none, .fields (List.toArray ((.str (.ofString "exists") (571 : Nat)) :: (.str (.ofString "State.exists") (572 : Nat)) :: (.str (.ofString "/claim/cut.py") (573 : Nat)) :: (.int 149 (0 : Nat)) :: (.int 2 (0 : Nat)) :: (.int 0 (0 : Nat)) :: (.int 0 (0 : Nat)) :: (.int 3 (0 : Nat)) :: (.ref (262 : Nat)) :: (.bool true) :: (.int 181 (0 : Nat)) :: (.ref (263 : Nat)) :: (.none) :: (.ref (264 : Nat)) :: (.ref (265 : Nat)) :: (.ref (266 : Nat)) :: (.int 576 (0 : Nat)) :: (.int 149 (0 : Nat)) :: (.str (.ofString "/claim/cut.py") (577 : Nat)) :: [])), (List.toArray [])⟩
noncomputable def o268 : Params → Obj := fun P => ⟨.type "function", Option.none, .func { name := (.ofString "exists"), qualname := (.ofString "State.exists"), params := sA_28_6_true, body := .stmts sB_28_6_true, scope := sC_28_6_true, globals := (3 : Nat), closure := [], defaults := .none, kwdefaults := .none, doc := .none, pyModule := .str (.ofString "gasledger.state") (512 : Nat), annotations := Option.none, code := .ref (267 : Nat), closureTuple := .none, builtins := (0 : Nat) }, (List.toArray [])⟩
noncomputable def o269 : Params → Obj := fun P => ⟨.type "tuple", Option.none, .seq (List.toArray []) (0 : Nat), (List.toArray [])⟩
noncomputable def o270 : Params → Obj := fun P => ⟨.none, Option.none, .fields (List.toArray []), (List.toArray [])⟩
noncomputable def o271 : Params → Obj := fun P => ⟨.type "tuple", Option.none, .seq (List.toArray [.str (.ofString "self") (582 : Nat), .str (.ofString "address") (583 : Nat)]) (0 : Nat), (List.toArray [])⟩
noncomputable def o272 : Params → Obj := fun P => ⟨.type "tuple", Option.none, .seq (List.toArray []) (0 : Nat), (List.toArray [])⟩
noncomputable def o273 : Params → Obj := fun P => ⟨.none, Option.none, .func { name := (.ofString "is_empty"), qualname := (.ofString "State.is_empty"), params := sA_28_7_true, body := .stmts sB_28_7_true, scope := sC_28_7_true, globals := (0 : Nat), closure := [], defaults := .none, kwdefaults := .none, doc := .none, pyModule := .none, annotations := Option.none, code := .none, closureTuple := .none, builtins := (0 : Nat) }, (List.toArray [])⟩
noncomputable def o274 : Params → Obj := fun P => ⟨.type "code", Option.none, .fields (List.toArray ((.str (.ofString "is_empty") (579 : Nat)) :: (.str (.ofString "State.is_empty") (580 : Nat)) :: (.str (.ofString "/claim/cut.py") (581 : Nat)) :: (.int 152 (0 : Nat)) :: (.int 2 (0 : Nat)) :: (.int 0 (0 : Nat)) :: (.int 0 (0 : Nat)) :: (.int 3 (0 : Nat)) :: (.ref (269 : Nat)) :: (.bool true) :: (.int 181 (0 : Nat)) :: (.ref (270 : Nat)) :: (.none) :: (.ref (271 : Nat)) :: (.ref (272 : Nat)) :: (.ref (273 : Nat)) :: (.int 584 (0 : Nat)) :: (.int 152 (0 : Nat)) :: (.str (.ofString "/claim/cut.py") (585 : Nat)) :: [])), (List.toArray [])⟩
noncomputable def o275 : Params → Obj := fun P => ⟨.type "function", Option.none, .func { name := (.ofString "is_empty"), qualname := (.ofString "State.is_empty"), params := sA_28_7_true, body := .stmts sB_28_7_true, scope := sC_28_7_true, globals := (3 : Nat), closure := [], defaults := .none, kwdefaults := .none, doc := .none, pyModule := .str (.ofString "gasledger.state") (512 : Nat), annotations := Option.none, code := .ref (274 : Nat), closureTuple := .none, builtins := (0 : Nat) }, (List.toArray [])⟩
noncomputable def o276 : Params → Obj := fun P => ⟨.type "tuple", Option.none, .seq (List.toArray []) (0 : Nat), (List.toArray [])⟩
noncomputable def o277 : Params → Obj := fun P => ⟨.none, Option.none, .fields (List.toArray []), (List.toArray [])⟩
noncomputable def o278 : Params → Obj := fun P => ⟨.type "tuple", Option.none, .seq (List.toArray [.str (.ofString "self") (590 : Nat), .str (.ofString "address") (591 : Nat)]) (0 : Nat), (List.toArray [])⟩
noncomputable def o279 : Params → Obj := fun P => ⟨.type "tuple", Option.none, .seq (List.toArray []) (0 : Nat), (List.toArray [])⟩
noncomputable def o280 : Params → Obj := fun P => ⟨.none, Option.none, .func { name := (.ofString "balance"), qualname := (.ofString "State.balance"), params := sA_28_8_true, body := .stmts sB_28_8_true, scope := sC_28_8_true, globals := (0 : Nat), closure := [], defaults := .none, kwdefaults := .none, doc := .none, pyModule := .none, annotations := Option.none, code := .none, closureTuple := .none, builtins := (0 : Nat) }, (List.toArray [])⟩
noncomputable def o281 : Params → Obj := fun P => ⟨.type "code", Option.none, .fields (List.toArray ((.str (.ofString "balance") (587 : Nat)) :: (.str (.ofString "State.balance") (588 : Nat)) :: (.str (.ofString "/claim/cut.py") (589 : Nat)) :: (.int 155 (0 : Nat)) :: (.int 2 (0 : Nat)) :: (.int 0 (0 : Nat)) :: (.int 0 (0 : Nat)) :: (.int 3 (0 : Nat)) :: (.ref (276 : Nat)) :: (.bool true) :: (.int 181 (0 : Nat)) :: (.ref (277 : Nat)) :: (.none) :: (.ref (278 : Nat)) :: (.ref (279 : Nat)) :: (.ref (280 : Nat)) :: (.int 592 (0 : Nat)) :: (.int 155 (0 : Nat)) :: (.str (.ofString "/claim/cut.py") (593 : Nat)) :: [])), (List.toArray [])⟩
noncomputable def o282 : Params → Obj := fun P => ⟨.type "function", Option.none, .func { name := (.ofString "balance"), qualname := (.ofString "State.balance"), params := sA_28_8_true, body := .stmts sB_28_8_true, scope := sC_28_8_true, globals := (3 : Nat), closure := [], defaults := .none, kwdefaults := .none, doc := .none, pyModule := .str (.ofString "gasledger.state") (512 : Nat), annotations := Option.none, code := .ref (281 : Nat), closureTuple := .none, builtins := (0 : Nat) }, (List.toArray [])⟩
noncomputable def o283 : Params → Obj := fun P => ⟨.type "tuple", Option.none, .seq (List.toArray []) (0 : Nat), (List.toArray [])⟩
noncomputable def o284 : Params → Obj := fun P => ⟨.none, Option.none, .fields (List.toArray []), (List.toArray [])⟩
noncomputable def o285 : Params → Obj := fun P => ⟨.type "tuple", Option.none, .seq (List.toArray [.str (.ofString "self") (598 : Nat), .str (.ofString "address") (599 : Nat), .str (.ofString "amount") (600 : Nat), .str (.ofString "account") (601 : Nat)]) (0 : Nat), (List.toArray [])⟩
noncomputable def o286 : Params → Obj := fun P => ⟨.type "tuple", Option.none, .seq (List.toArray []) (0 : Nat), (List.toArray [])⟩
noncomputable def o287 : Params → Obj := fun P => ⟨.none, Option.none, .func { name := (.ofString "set_balance"), qualname := (.ofString "State.set_balance"), params := sA_28_9_true, body := .stmts sB_28_9_true, scope := sC_28_9_true, globals := (0 : Nat), closure := [], defaults := .none, kwdefaults := .none, doc := .none, pyModule := .none, annotations := Option.none, code := .none, closureTuple := .none, builtins := (0 : Nat) }, (List.toArray [])⟩
noncomputable def o288 : Params → Obj := fun P => ⟨.type "code", Option.none, .fields (List.toArray ((.str (.ofString "set_balance") (595 : Nat)) :: (.str (.ofString "State.set_balance") (596 : Nat)) :: (.str (.ofString "/claim/cut.py") (597 : Nat)) :: (.int 158 (0 : Nat)) :: (.int 3 (0 : Nat)) :: (.int 0 (0 : Nat)) :: (.int 0 (0 : Nat)) :: (.int 3 (0 : Nat)) :: (.ref (283 : Nat)) :: (.bool true) :: (.int 181 (0 : Nat)) :: (.ref (284 : Nat)) :: (.none) :: (.ref (285 : Nat)) :: (.ref (286 : Nat)) :: (.ref (287 : Nat)) :: (.int 602 (0 : Nat)) :: (.int 158 (0 : Nat)) :: (.str (.ofString "/claim/cut.py") (603 : Nat)) :: [])), (List.toArray [])⟩
noncomputable def o289 : Params → Obj := fun P => ⟨.type "function", Option.none, .func { name := (.ofString "set_balance"), qualname := (.ofString "State.set_balance"), params := sA_28_9_true, body := .stmts sB_28_9_true, scope := sC_28_9_true, globals := (3 : Nat), closure := [], defaults := .none, kwdefaults := .none, doc := .none, pyModule := .str (.ofString "gasledger.state") (512 : Nat), annotations := Option.none, code := .ref (288 : Nat), closureTuple := .none, builtins := (0 : Nat) }, (List.toArray [])⟩
noncomputable def o290 : Params → Obj := fun P => ⟨.type "tuple", Option.none, .seq (List.toArray []) (0 : Nat), (List.toArray [])⟩
noncomputable def o291 : Params → Obj := fun P => ⟨.none, Option.none, .fields (List.toArray []), (List.toArray [])⟩
noncomputable def o292 : Params → Obj := fun P => ⟨.type "tuple", Option.none, .seq (List.toArray [.str (.ofString "self") (608 : Nat), .str (.ofString "giver") (609 : Nat), .str (.ofString "taker") (610 : Nat), .str (.ofString "amount") (611 : Nat)]) (0 : Nat), (List.toArray [])⟩
noncomputable def o293 : Params → Obj := fun P => ⟨.type "tuple", Option.none, .seq (List.toArray []) (0 : Nat), (List.toArray [])⟩
noncomputable def o294 : Params → Obj := fun P => ⟨.none, Option.none, .func { name := (.ofString "moved"), qualname := (.ofString "State.moved"), params := sA_28_10_true, body := .stmts sB_28_10_true, scope := sC_28_10_true, globals := (0 : Nat), closure := [], defaults := .none, kwdefaults := .none, doc := .none, pyModule := .none, annotations := Option.none, code := .none, closureTuple := .none, builtins := (0 : Nat) }, (List.toArray [])⟩
noncomputable def o295 : Params → Obj := fun P => ⟨.type "code", Option.none, .fields (List.toArray ((.str (.ofString "moved") (605 : Nat)) :: (.str (.ofString "State.moved") (606 : Nat)) :: (.str (.ofString "/claim/cut.py") (607 : Nat)) :: (.int 165 (0 : Nat)) :: (.int 4 (0 : Nat)) :: (.int 0 (0 : Nat)) :: (.int 0 (0 : Nat)) :: (.int 3 (0 : Nat)) :: (.ref (290 : Nat)) :: (.bool true) :: (.int 181 (0 : Nat)) :: (.ref (291 : Nat)) :: (.none) :: (.ref (292 : Nat)) :: (.ref (293 : Nat)) :: (.ref (294 : Nat)) :: (.int 612 (0 : Nat)) :: (.int 165 (0 : Nat)) :: (.str (.ofString "/claim/cut.py") (613 : Nat)) :: [])), (List.toArray [])⟩
noncomputable def o296 : Params → Obj := fun P => ⟨.type "function", Option.none, .func { name := (.ofString "moved"), qualname := (.ofString "State.moved"), params := sA_28_10_true, body := .stmts sB_28_10_true, scope := sC_28_10_true, globals := (3 : Nat), closure := [], defaults := .none, kwdefaults := .none, doc := .none, pyModule := .str (.ofString "gasledger.state") (512 : Nat), annotations := Option.none, code := .ref (295 : Nat), closureTuple := .none, builtins := (0 : Nat) }, (List.toArray [])⟩
noncomputable def o297 : Params → Obj := fun P => ⟨.type "tuple", Option.none, .seq (List.toArray []) (0 : Nat), (List.toArray [])⟩
noncomputable def o298 : Params → Obj := fun P => ⟨.none, Option.none, .fields (List.toArray []), (List.toArray [])⟩
noncomputable def o299 : Params → Obj := fun P => ⟨.type "tuple", Option.none, .seq (List.toArray [.str (.ofString "self") (618 : Nat), .str (.ofString "address") (619 : Nat)]) (0 : Nat), (List.toArray [])⟩
noncomputable def o300 : Params → Obj := fun P => ⟨.type "tuple", Option.none, .seq (List.toArray []) (0 : Nat), (List.toArray [])⟩
noncomputable def o301 : Params → Obj := fun P => ⟨.none, Option.none, .func { name := (.ofString "nonce"), qualname := (.ofString "State.nonce"), params := sA_28_11_true, body := .stmts sB_28_11_true, scope := sC_28_11_true, globals := (0 : Nat), closure := [], defaults := .none, kwdefaults := .none, doc := .none, pyModule := .none, annotations := Option.none, code := .none, closureTuple := .none, builtins := (0 : Nat) }, (List.toArray [])⟩
noncomputable def o302 : Params → Obj := fun P => ⟨.type "code", Option.none, .fields (List.toArray ((.str (.ofString "nonce") (615 : Nat)) :: (.str (.ofString "State.nonce") (616 : Nat)) :: (.str (.ofString "/claim/cut.py") (617 : Nat)) :: (.int 168 (0 : Nat)) :: (.int 2 (0 : Nat)) :: (.int 0 (0 : Nat)) :: (.int 0 (0 : Nat)) :: (.int 3 (0 : Nat)) :: (.ref (297 : Nat)) :: (.bool true) :: (.int 181 (0 : Nat)) :: (.ref (298 : Nat)) :: (.none) :: (.ref (299 : Nat)) :: (.ref (300 : Nat)) :: (.ref (301 : Nat)) :: (.int 620 (0 : Nat)) :: (.int 168 (0 : Nat)) :: (.str (.ofString "/claim/cut.py") (621 : Nat)) :: [])), (List.toArray [])⟩
noncomputable def o303 : Params → Obj := fun P => ⟨.type "function", Option.none, .func { name := (.ofString "nonce"), qualname := (.ofString "State.nonce"), params := sA_28_11_true, body := .stmts sB_28_11_true, scope := sC_28_11_true, globals := (3 : Nat), closure := [], defaults := .none, kwdefaults := .none, doc := .none, pyModule := .str (.ofString "gasledger.state") (512 : Nat), annotations := Option.none, code := .ref (302 : Nat), closureTuple := .none, builtins := (0 : Nat) }, (List.toArray [])⟩
noncomputable def o304 : Params → Obj := fun P => ⟨.type "tuple", Option.none, .seq (List.toArray []) (0 : Nat), (List.toArray [])⟩
noncomputable def o305 : Params → Obj := fun P => ⟨.none, Option.none, .fields (List.toArray []), (List.toArray [])⟩
noncomputable def o306 : Params → Obj := fun P => ⟨.type "tuple", Option.none, .seq (List.toArray [.str (.ofString "self") (626 : Nat), .str (.ofString "address") (627 : Nat), .str (.ofString "nonce") (628 : Nat), .str (.ofString "account") (629 : Nat)]) (0 : Nat), (List.toArray [])⟩
noncomputable def o307 : Params → Obj := fun P => ⟨.type "tuple", Option.none, .seq (List.toArray []) (0 : Nat), (List.toArray [])⟩
noncomputable def o308 : Params → Obj := fun P => ⟨.none, Option.none, .func { name := (.ofString "set_nonce"), qualname := (.ofString "State.set_nonce"), params := sA_28_12_true, body := .stmts sB_28_12_true, scope := sC_28_12_true, globals := (0 : Nat), closure := [], defaults := .none, kwdefaults := .none, doc := .none, pyModule := .none, annotations := Option.none, code := .none, closureTuple := .none, builtins := (0 : Nat) }, (List.toArray [])⟩
noncomputable def o309 : Params → Obj := fun P => ⟨.type "code", Option.none, .fields (List.toArray ((.str (.ofString "set_nonce") (623 : Nat)) :: (.str (.ofString "State.set_nonce") (624 : Nat)) :: (.str (.ofString "/claim/cut.py") (625 : Nat)) :: (.int 171 (0 : Nat)) :: (.int 3 (0 : Nat)) :: (.int 0 (0 : Nat)) :: (.int 0 (0 : Nat)) :: (.int 3 (0 : Nat)) :: (.ref (304 : Nat)) :: (.bool true) :: (.int 181 (0 : Nat)) :: (.ref (305 : Nat)) :: (.none) :: (.ref (306 : Nat)) :: (.ref (307 : Nat)) :: (.ref (308 : Nat)) :: (.int 630 (0 : Nat)) :: (.int 171 (0 : Nat)) :: (.str (.ofString "/claim/cut.py") (631 : Nat)) :: [])), (List.toArray [])⟩
noncomputable def o310 : Params → Obj := fun P => ⟨.type "function", Option.none, .func { name := (.ofString "set_nonce"), qualname := (.ofString "State.set_nonce"), params := sA_28_12_true, body := .stmts sB_28_12_true, scope := sC_28_12_true, globals := (3 : Nat), closure := [], defaults := .none, kwdefaults := .none, doc := .none, pyModule := .str (.ofString "gasledger.state") (512 : Nat), annotations := Option.none, code := .ref (309 : Nat), closureTuple := .none, builtins := (0 : Nat) }, (List.toArray [])⟩
noncomputable def o311 : Params → Obj := fun P => ⟨.type "tuple", Option.none, .seq (List.toArray []) (0 : Nat), (List.toArray [])⟩
noncomputable def o312 : Params → Obj := fun P => ⟨.none, Option.none, .fields (List.toArray []), (List.toArray [])⟩
noncomputable def o313 : Params → Obj := fun P => ⟨.type "tuple", Option.none, .seq (List.toArray [.str (.ofString "self") (636 : Nat), .str (.ofString "address") (637 : Nat)]) (0 : Nat), (List.toArray [])⟩
noncomputable def o314 : Params → Obj := fun P => ⟨.type "tuple", Option.none, .seq (List.toArray []) (0 : Nat), (List.toArray [])⟩
noncomputable def o315 : Params → Obj := fun P => ⟨.none, Option.none, .func { name := (.ofString "code"), qualname := (.ofString "State.code"), params := sA_28_13_true, body := .stmts sB_28_13_true, scope := sC_28_13_true, globals := (0 : Nat), closure := [], defaults := .none, kwdefaults := .none, doc := .none, pyModule := .none, annotations := Option.none, code := .none, closureTuple := .none, builtins := (0 : Nat) }, (List.toArray [])⟩
noncomputable def o316 : Params → Obj := fun P => ⟨.type "code", Option.none, .fields (List.toArray ((.str (.ofString "code") (633 : Nat)) :: (.str (.ofString "State.code") (634 : Nat)) :: (.str (.ofString "/claim/cut.py") (635 : Nat)) :: (.int 176 (0 : Nat)) :: (.int 2 (0 : Nat)) :: (.int 0 (0 : Nat)) :: (.int 0 (0 : Nat)) :: (.int 3 (0 : Nat)) :: (.ref (311 : Nat)) :: (.bool true) :: (.int 181 (0 : Nat)) :: (.ref (312 : Nat)) :: (.none) :: (.ref (313 : Nat)) :: (.ref (314 : Nat)) :: (.ref (315 : Nat)) :: (.int 638 (0 : Nat)) :: (.int 176 (0 : Nat)) :: (.str (.ofString "/claim/cut.py") (639 : Nat)) :: [])), (List.toArray [])⟩
noncomputable def o317 : Params → Obj := fun P => ⟨.type "function", Option.none, .func { name := (.ofString "code"), qualname := (.ofString "State.code"), params := sA_28_13_true, body := .stmts sB_28_13_true, scope := sC_28_13_true, globals := (3 : Nat), closure := [], defaults := .none, kwdefaults := .none, doc := .none, pyModule := .str (.ofString "gasledger.state") (512 : Nat), annotations := Option.none, code := .ref (316 : Nat), closureTuple := .none, builtins := (0 : Nat) }, (List.toArray [])⟩
noncomputable def o318 : Params → Obj := fun P => ⟨.type "tuple", Option.none, .seq (List.toArray []) (0 : Nat), (List.toArray [])⟩
noncomputable def o319 : Params → Obj := fun P => ⟨.none, Option.none, .fields (List.toArray []), (List.toArray [])⟩
noncomputable def o320 : Params → Obj := fun P => ⟨.type "tuple", Option.none, .seq (List.toArray [.str (.ofString "self") (644 : Nat), .str (.ofString "address") (645 : Nat), .str (.ofString "code") (646 : Nat), .str (.ofString "account") (647 : Nat)]) (0 : Nat), (List.toArray [])⟩
noncomputable def o321 : Params → Obj := fun P => ⟨.type "tuple", Option.none, .seq (List.toArray []) (0 : Nat), (List.toArray [])⟩
noncomputable def o322 : Params → Obj := fun P => ⟨.none, Option.none, .func { name := (.ofString "set_code"), qualname := (.ofString "State.set_code"), params := sA_28_14_true, body := .stmts sB_28_14_true, scope := sC_28_14_true, globals := (0 : Nat), closure := [], defaults := .none, kwdefaults := .none, doc := .none, pyModule := .none, annotations := Option.none, code := .none, closureTuple := .none, builtins := (0 : Nat) }, (List.toArray [])⟩
noncomputable def o323 : Params → Obj := fun P => ⟨.type "code", Option.none, .fields (List.toArray ((.str (.ofString "set_code") (641 : Nat)) :: (.str (.ofString "State.set_code") (642 : Nat)) :: (.str (.ofString "/claim/cut.py") (643 : Nat)) :: (.int 179 (0 : Nat)) :: (.int 3 (0 : Nat)) :: (.int 0 (0 : Nat)) :: (.int 0 (0 : Nat)) :: (.int 3 (0 : Nat)) :: (.ref (318 : Nat)) :: (.bool true) :: (.int 181 (0 : Nat)) :: (.ref (319 : Nat)) :: (.none) :: (.ref (320 : Nat)) :: (.ref (321 : Nat)) :: (.ref (322 : Nat)) :: (.int 648 (0 : Nat)) :: (.int 179 (0 : Nat)) :: (.str (.ofString "/claim/cut.py") (649 : Nat)) :: [])), (List.toArray [])⟩
noncomputable def o324 : Params → Obj := fun P => ⟨.type "function", Option.none, .func { name := (.ofString "set_code"), qualname := (.ofString "State.set_code"), params := sA_28_14_true, body := .stmts sB_28_14_true, scope := sC_28_14_true, globals := (3 : Nat), closure := [], defaults := .none, kwdefaults := .none, doc := .none, pyModule := .str (.ofString "gasledger.state") (512 : Nat), annotations := Option.none, code := .ref (323 : Nat), closureTuple := .none, builtins := (0 : Nat) }, (List.toArray [])⟩
noncomputable def o325 : Params → Obj := fun P => ⟨.type "tuple", Option.none, .seq (List.toArray []) (0 : Nat), (List.toArray [])⟩
noncomputable def o326 : Params → Obj := fun P => ⟨.none, Option.none, .fields (List.toArray []), (List.toArray [])⟩
noncomputable def o327 : Params → Obj := fun P => ⟨.type "tuple", Option.none, .seq (List.toArray [.str (.ofString "self") (654 : Nat), .str (.ofString "address") (655 : Nat)]) (0 : Nat), (List.toArray [])⟩
noncomputable def o328 : Params → Obj := fun P => ⟨.type "tuple", Option.none, .seq (List.toArray []) (0 : Nat), (List.toArray [])⟩
noncomputable def o329 : Params → Obj := fun P => ⟨.none, Option.none, .func { name := (.ofString "code_hash"), qualname := (.ofString "State.code_hash"), params := sA_28_15_true, body := .stmts sB_28_15_true, scope := sC_28_15_true, globals := (0 : Nat), closure := [], defaults := .none, kwdefaults := .none, doc := .none, pyModule := .none, annotations := Option.none, code := .none, closureTuple := .none, builtins := (0 : Nat) }, (List.toArray [])⟩
noncomputable def o330 : Params → Obj := fun P => ⟨.type "code", Option.none, .fields (List.toArray ((.str (.ofString "code_hash") (651 : Nat)) :: (.str (.ofString "State.code_hash") (652 : Nat)) :: (.str (.ofString "/claim/cut.py") (653 : Nat)) :: (.int 184 (0 : Nat)) :: (.int 2 (0 : Nat)) :: (.int 0 (0 : Nat)) :: (.int 0 (0 : Nat)) :: (.int 3 (0 : Nat)) :: (.ref (325 : Nat)) :: (.bool true) :: (.int 181 (0 : Nat)) :: (.ref (326 : Nat)) :: (.none) :: (.ref (327 : Nat)) :: (.ref (328 : Nat)) :: (.ref (329 : Nat)) :: (.int 656 (0 : Nat)) :: (.int 184 (0 : Nat)) :: (.str (.ofString "/claim/cut.py") (657 : Nat)) :: [])), (List.toArray [])⟩
noncomputable def o331 : Params → Obj := fun P => ⟨.type "function", Option.none, .func { name := (.ofString "code_hash"), qualname := (.ofString "State.code_hash"), params := sA_28_15_true, body := .stmts sB_28_15_true, scope := sC_28_15_true, globals := (3 : Nat), closure := [], defaults := .none, kwdefaults := .none, doc := .none, pyModule := .str (.ofString "gasledger.state") (512 : Nat), annotations := Option.none, code := .ref (330 : Nat), closureTuple := .none, builtins := (0 : Nat) }, (List.toArray [])⟩
noncomputable def o332 : Params → Obj := fun P => ⟨.type "tuple", Option.none, .seq (List.toArray []) (0 : Nat), (List.toArray [])⟩
noncomputable def o333 : Params → Obj := fun P => ⟨.none, Option.none, .fields (List.toArray []), (List.toArray [])⟩
noncomputable def o334 : Params → Obj := fun P => ⟨.type "tuple", Option.none, .seq (List.toArray [.str (.ofString "self") (662 : Nat), .str (.ofString "address") (663 : Nat), .str (.ofString "slot") (664 : Nat)]) (0 : Nat), (List.toArray [])⟩
noncomputable def o335 : Params → Obj := fun P => ⟨.type "tuple", Option.none, .seq (List.toArray []) (0 : Nat), (List.toArray [])⟩
noncomputable def o336 : Params → Obj := fun P => ⟨.none, Option.none, .func { name := (.ofString "slot"), qualname := (.ofString "State.slot"), params := sA_28_16_true, body := .stmts sB_28_16_true, scope := sC_28_16_true, globals := (0 : Nat), closure := [], defaults := .none, kwdefaults := .none, doc := .none, pyModule := .none, annotations := Option.none, code := .none, closureTuple := .none, builtins := (0 : Nat) }, (List.toArray [])⟩
noncomputable def o337 : Params → Obj := fun P => ⟨.type "code", Option.none, .fields (List.toArray ((.str (.ofString "slot") (659 : Nat)) :: (.str (.ofString "State.slot") (660 : Nat)) :: (.str (.ofString "/claim/cut.py") (661 : Nat)) :: (.int 187 (0 : Nat)) :: (.int 3 (0 : Nat)) :: (.int 0 (0 : Nat)) :: (.int 0 (0 : Nat)) :: (.int 3 (0 : Nat)) :: (.ref (332 : Nat)) :: (.bool true) :: (.int 181 (0 : Nat)) :: (.ref (333 : Nat)) :: (.none) :: (.ref (334 : Nat)) :: (.ref (335 : Nat)) :: (.ref (336 : Nat)) :: (.int 665 (0 : Nat)) :: (.int 187 (0 : Nat)) :: (.str (.ofString "/claim/cut.py") (666 : Nat)) :: [])), (List.toArray [])⟩
noncomputable def o338 : Params → Obj := fun P => ⟨.type "function", Option.none, .func { name := (.ofString "slot"), qualname := (.ofString "State.slot"), params := sA_28_16_true, body := .stmts sB_28_16_true, scope := sC_28_16_true, globals := (3 : Nat), closure := [], defaults := .none, kwdefaults := .none, doc := .none, pyModule := .str (.ofString "gasledger.state") (512 : Nat), annotations := Option.none, code := .ref (337 : Nat), closureTuple := .none, builtins := (0 : Nat) }, (List.toArray [])⟩
noncomputable def o339 : Params → Obj := fun P => ⟨.type "tuple", Option.none, .seq (List.toArray []) (0 : Nat), (List.toArray [])⟩
noncomputable def o340 : Params → Obj := fun P => ⟨.none, Option.none, .fields (List.toArray []), (List.toArray [])⟩
noncomputable def o341 : Params → Obj := fun P => ⟨.type "tuple", Option.none, .seq (List.toArray [.str (.ofString "self") (671 : Nat), .str (.ofString "address") (672 : Nat), .str (.ofString "slot") (673 : Nat), .str (.ofString "word") (674 : Nat), .str (.ofString "old") (675 : Nat), .str (.ofString "account") (676 : Nat)]) (0 : Nat), (List.toArray [])⟩
noncomputable def o342 : Params → Obj := fun P => ⟨.type "tuple", Option.none, .seq (List.toArray []) (0 : Nat), (List.toArray [])⟩
noncomputable def o343 : Params → Obj := fun P => ⟨.none, Option.none, .func { name := (.ofString "set_slot"), qualname := (.ofString "State.set_slot"), params := sA_28_17_true, body := .stmts sB_28_17_true, scope := sC_28_17_true, globals := (0 : Nat), closure := [], defaults := .none, kwdefaults := .none, doc := .none, pyModule := .none, annotations := Option.none, code := .none, closureTuple := .none, builtins := (0 : Nat) }, (List.toArray [])⟩
noncomputable def o344 : Params → Obj := fun P => ⟨.type "code", Option.none, .fields (List.toArray ((.str (.ofString "set_slot") (668 : Nat)) :: (.str (.ofString "State.set_slot") (669 : Nat)) :: (.str (.ofString "/claim/cut.py") (670 : Nat)) :: (.int 190 (0 : Nat)) :: (.int 4 (0 : Nat)) :: (.int 0 (0 : Nat)) :: (.int 0 (0 : Nat)) :: (.int 3 (0 : Nat)) :: (.ref (339 : Nat)) :: (.bool true) :: (.int 181 (0 : Nat)) :: (.ref (340 : Nat)) :: (.none) :: (.ref (341 : Nat)) :: (.ref (342 : Nat)) :: (.ref (343 : Nat)) :: (.int 677 (0 : Nat)) :: (.int 190 (0 : Nat)) :: (.str (.ofString "/claim/cut.py") (678 : Nat)) :: [])), (List.toArray [])⟩
noncomputable def o345 : Params → Obj := fun P => ⟨.type "function", Option.none, .func { name := (.ofString "set_slot"), qualname := (.ofString "State.set_slot"), params := sA_28_17_true, body := .stmts sB_28_17_true, scope := sC_28_17_true, globals := (3 : Nat), closure := [], defaults := .none, kwdefaults := .none, doc := .none, pyModule := .str (.ofString "gasledger.state") (512 : Nat), annotations := Option.none, code := .ref (344 : Nat), closureTuple := .none, builtins := (0 : Nat) }, (List.toArray [])⟩
noncomputable def o346 : Params → Obj := fun P => ⟨.type "tuple", Option.none, .seq (List.toArray []) (0 : Nat), (List.toArray [])⟩
noncomputable def o347 : Params → Obj := fun P => ⟨.none, Option.none, .fields (List.toArray []), (List.toArray [])⟩
noncomputable def o348 : Params → Obj := fun P => ⟨.type "tuple", Option.none, .seq (List.toArray [.str (.ofString "self") (683 : Nat), .str (.ofString "address") (684 : Nat), .str (.ofString "slot") (685 : Nat)]) (0 : Nat), (List.toArray [])⟩
noncomputable def o349 : Params → Obj := fun P => ⟨.type "tuple", Option.none, .seq (List.toArray []) (0 : Nat), (List.toArray [])⟩
noncomputable def o350 : Params → Obj := fun P => ⟨.none, Option.none, .func { name := (.ofString "original_slot"), qualname := (.ofString "State.original_slot"), params := sA_28_18_true, body := .stmts sB_28_18_true, scope := sC_28_18_true, globals := (0 : Nat), closure := [], defaults := .none, kwdefaults := .none, doc := .none, pyModule := .none, annotations := Option.none, code := .none, closureTuple := .none, builtins := (0 : Nat) }, (List.toArray [])⟩
noncomputable def o351 : Params → Obj := fun P => ⟨.type "code", Option.none, .fields (List.toArray ((.str (.ofString "original_slot") (680 : Nat)) :: (.str (.ofString "State.original_slot") (681 : Nat)) :: (.str (.ofString "/claim/cut.py") (682 : Nat)) :: (.int 198 (0 : Nat)) :: (.int 3 (0 : Nat)) :: (.int 0 (0 : Nat)) :: (.int 0 (0 : Nat)) :: (.int 3 (0 : Nat)) :: (.ref (346 : Nat)) :: (.bool true) :: (.int 181 (0 : Nat)) :: (.ref (347 : Nat)) :: (.none) :: (.ref (348 : Nat)) :: (.ref (349 : Nat)) :: (.ref (350 : Nat)) :: (.int 686 (0 : Nat)) :: (.int 198 (0 : Nat)) :: (.str (.ofString "/claim/cut.py") (687 : Nat)) :: [])), (List.toArray [])⟩
noncomputable def o352 : Params → Obj := fun P => ⟨.type "function", Option.none, .func { name := (.ofString "original_slot"), qualname := (.ofString "State.original_slot"), params := sA_28_18_true, body := .stmts sB_28_18_true, scope := sC_28_18_true, globals := (3 : Nat), closure := [], defaults := .none, kwdefaults := .none, doc := .none, pyModule := .str (.ofString "gasledger.state") (512 : Nat), annotations := Option.none, code := .ref (351 : Nat), closureTuple := .none, builtins := (0 : Nat) }, (List.toArray [])⟩
noncomputable def o353 : Params → Obj := fun P => ⟨.type "tuple", Option.none, .seq (List.toArray []) (0 : Nat), (List.toArray [])⟩
noncomputable def o354 : Params → Obj := fun P => ⟨.none, Option.none, .fields (List.toArray []), (List.toArray [])⟩
noncomputable def o355 : Params → Obj := fun P => ⟨.type "tuple", Option.none, .seq (List.toArray [.str (.ofString "self") (692 : Nat), .str (.ofString "address") (693 : Nat)]) (0 : Nat), (List.toArray [])⟩
noncomputable def o356 : Params → Obj := fun P => ⟨.type "tuple", Option.none, .seq (List.toArray []) (0 : Nat), (List.toArray [])⟩
noncomputable def o357 : Params → Obj := fun P => ⟨.none, Option.none, .func { name := (.ofString "is_warm"), qualname := (.ofString "State.is_warm"), params := sA_28_19_true, body := .stmts sB_28_19_true, scope := sC_28_19_true, globals := (0 : Nat), closure := [], defaults := .none, kwdefaults := .none, doc := .none, pyModule := .none, annotations := Option.none, code := .none, closureTuple := .none, builtins := (0 : Nat) }, (List.toArray [])⟩
noncomputable def o358 : Params → Obj := fun P => ⟨.type "code", Option.none, .fields (List.toArray ((.str (.ofString "is_warm") (689 : Nat)) :: (.str (.ofString "State.is_warm") (690 : Nat)) :: (.str (.ofString "/claim/cut.py") (691 : Nat)) :: (.int 201 (0 : Nat)) :: (.int 2 (0 : Nat)) :: (.int 0 (0 : Nat)) :: (.int 0 (0 : Nat)) :: (.int 3 (0 : Nat)) :: (.ref (353 : Nat)) :: (.bool true) :: (.int 181 (0 : Nat)) :: (.ref (354 : Nat)) :: (.none) :: (.ref (355 : Nat)) :: (.ref (356 : Nat)) :: (.ref (357 : Nat)) :: (.int 694 (0 : Nat)) :: (.int 201 (0 : Nat)) :: (.str (.ofString "/claim/cut.py") (695 : Nat)) :: [])), (List.toArray [])⟩
noncomputable def o359 : Params → Obj := fun P => ⟨.type "function", Option.none, .func { name := (.ofString "is_warm"), qualname := (.ofString "State.is_warm"), params := sA_28_19_true, body := .stmts sB_28_19_true, scope := sC_28_19_true, globals := (3 : Nat), closure := [], defaults := .none, kwdefaults := .none, doc := .none, pyModule := .str (.ofString "gasledger.state") (512 : Nat), annotations := Option.none, code := .ref (358 : Nat), closureTuple := .none, builtins := (0 : Nat) }, (List.toArray [])⟩
noncomputable def o360 : Params → Obj := fun P => ⟨.type "tuple", Option.none, .seq (List.toArray []) (0 : Nat), (List.toArray [])⟩
noncomputable def o361 : Params → Obj := fun P => ⟨.none, Option.none, .fields (List.toArray []), (List.toArray [])⟩
noncomputable def o362 : Params → Obj := fun P => ⟨.type "tuple", Option.none, .seq (List.toArray [.str (.ofString "self") (700 : Nat), .str (.ofString "address") (701 : Nat)]) (0 : Nat), (List.toArray [])⟩
noncomputable def o363 : Params → Obj := fun P => ⟨.type "tuple", Option.none, .seq (List.toArray []) (0 : Nat), (List.toArray [])⟩
noncomputable def o364 : Params → Obj := fun P => ⟨.none, Option.none, .func { name := (.ofString "warm"), qualname := (.ofString "State.warm"), params := sA_28_20_true, body := .stmts sB_28_20_true, scope := sC_28_20_true, globals := (0 : Nat), closure := [], defaults := .none, kwdefaults := .none, doc := .none, pyModule := .none, annotations := Option.none, code := .none, closureTuple := .none, builtins := (0 : Nat) }, (List.toArray [])⟩
noncomputable def o365 : Params → Obj := fun P => ⟨.type "code", Option.none, .fields (List.toArray ((.str (.ofString "warm") (697 : Nat)) :: (.str (.ofString "State.warm") (698 : Nat)) :: (.str (.ofString "/claim/cut.py") (699 : Nat)) :: (.int 204 (0 : Nat)) :: (.int 2 (0 : Nat)) :: (.int 0 (0 : Nat)) :: (.int 0 (0 : Nat)) :: (.int 3 (0 : Nat)) :: (.ref (360 : Nat)) :: (.bool true) :: (.int 181 (0 : Nat)) :: (.ref (361 : Nat)) :: (.none) :: (.ref (362 : Nat)) :: (.ref (363 : Nat)) :: (.ref (364 : Nat)) :: (.int 702 (0 : Nat)) :: (.int 204 (0 : Nat)) :: (.str (.ofString "/claim/cut.py") (703 : Nat)) :: [])), (List.toArray [])⟩
noncomputable def o366 : Params → Obj := fun P => ⟨.type "function", Option.none, .func { name := (.ofString "warm"), qualname := (.ofString "State.warm"), params := sA_28_20_true, body := .stmts sB_28_20_true, scope := sC_28_20_true, globals := (3 : Nat), closure := [], defaults := .none, kwdefaults := .none, doc := .none, pyModule := .str (.ofString "gasledger.state") (512 : Nat), annotations := Option.none, code := .ref (365 : Nat), closureTuple := .none, builtins := (0 : Nat) }, (List.toArray [])⟩
noncomputable def o367 : Params → Obj := fun P => ⟨.type "tuple", Option.none, .seq (List.toArray []) (0 : Nat), (List.toArray [])⟩
noncomputable def o368 : Params → Obj := fun P => ⟨.none, Option.none, .fields (List.toArray []), (List.toArray [])⟩
noncomputable def o369 : Params → Obj := fun P => ⟨.type "tuple", Option.none, .seq (List.toArray [.str (.ofString "self") (708 : Nat), .str (.ofString "address") (709 : Nat), .str (.ofString "slot") (710 : Nat)]) (0 : Nat), (List.toArray [])⟩
noncomputable def o370 : Params → Obj := fun P => ⟨.type "tuple", Option.none, .seq (List.toArray []) (0 : Nat), (List.toArray [])⟩
noncomputable def o371 : Params → Obj := fun P => ⟨.none, Option.none, .func { name := (.ofString "is_warm_slot"), qualname := (.ofString "State.is_warm_slot"), params := sA_28_21_true, body := .stmts sB_28_21_true, scope := sC_28_21_true, globals := (0 : Nat), closure := [], defaults := .none, kwdefaults := .none, doc := .none, pyModule := .none, annotations := Option.none, code := .none, closureTuple := .none, builtins := (0 : Nat) }, (List.toArray [])⟩
noncomputable def o372 : Params → Obj := fun P => ⟨.type "code", Option.none, .fields (List.toArray ((.str (.ofString "is_warm_slot") (705 : Nat)) :: (.str (.ofString "State.is_warm_slot") (706 : Nat)) :: (.str (.ofString "/claim/cut.py") (707 : Nat)) :: (.int 209 (0 : Nat)) :: (.int 3 (0 : Nat)) :: (.int 0 (0 : Nat)) :: (.int 0 (0 : Nat)) :: (.int 3 (0 : Nat)) :: (.ref (367 : Nat)) :: (.bool true) :: (.int 181 (0 : Nat)) :: (.ref (368 : Nat)) :: (.none) :: (.ref (369 : Nat)) :: (.ref (370 : Nat)) :: (.ref (371 : Nat)) :: (.int 711 (0 : Nat)) :: (.int 209 (0 : Nat)) :: (.str (.ofString "/claim/cut.py") (712 : Nat)) :: [])), (List.toArray [])⟩
noncomputable def o373 : Params → Obj := fun P => ⟨.type "function", Option.none, .func { name := (.ofString "is_warm_slot"), qualname := (.ofString "State.is_warm_slot"), params := sA_28_21_true, body := .stmts sB_28_21_true, scope := sC_28_21_true, globals := (3 : Nat), closure := [], defaults := .none, kwdefaults := .none, doc := .none, pyModule := .str (.ofString "gasledger.state") (512 : Nat), annotations := Option.none, code := .ref (372 : Nat), closureTuple := .none, builtins := (0 : Nat) }, (List.toArray [])⟩
noncomputable def o374 : Params → Obj := fun P => ⟨.type "tuple", Option.none, .seq (List.toArray []) (0 : Nat), (List.toArray [])⟩
noncomputable def o375 : Params → Obj := fun P => ⟨.none, Option.none, .fields (List.toArray []), (List.toArray [])⟩
noncomputable def o376 : Params → Obj := fun P => ⟨.type "tuple", Option.none, .seq (List.toArray [.str (.ofString "self") (717 : Nat), .str (.ofString "address") (718 : Nat), .str (.ofString "slot") (719 : Nat)]) (0 : Nat), (List.toArray [])⟩
noncomputable def o377 : Params → Obj := fun P => ⟨.type "tuple", Option.none, .seq (List.toArray []) (0 : Nat), (List.toArray [])⟩
noncomputable def o378 : Params → Obj := fun P => ⟨.none, Option.none, .func { name := (.ofString "warm_slot"), qualname := (.ofString "State.warm_slot"), params := sA_28_22_true, body := .stmts sB_28_22_true, scope := sC_28_22_true, globals := (0 : Nat), closure := [], defaults := .none, kwdefaults := .none, doc := .none, pyModule := .none, annotations := Option.none, code := .none, closureTuple := .none, builtins := (0 : Nat) }, (List.toArray [])⟩
noncomputable def o379 : Params → Obj := fun P => ⟨.type "code", Option.none, .fields (List.toArray ((.str (.ofString "warm_slot") (714 : Nat)) :: (.str (.ofString "State.warm_slot") (715 : Nat)) :: (.str (.ofString "/claim/cut.py") (716 : Nat)) :: (.int 212 (0 : Nat)) :: (.int 3 (0 : Nat)) :: (.int 0 (0 : Nat)) :: (.int 0 (0 : Nat)) :: (.int 3 (0 : Nat)) :: (.ref (374 : Nat)) :: (.bool true) :: (.int 181 (0 : Nat)) :: (.ref (375 : Nat)) :: (.none) :: (.ref (376 : Nat)) :: (.ref (377 : Nat)) :: (.ref (378 : Nat)) :: (.int 720 (0 : Nat)) :: (.int 212 (0 : Nat)) :: (.str (.ofString "/claim/cut.py") (721 : Nat)) :: [])), (List.toArray [])⟩
noncomputable def o380 : Params → Obj := fun P => ⟨.type "function", Option.none, .func { name := (.ofString "warm_slot"), qualname := (.ofString "State.warm_slot"), params := sA_28_22_true, body := .stmts sB_28_22_true, scope := sC_28_22_true, globals := (3 : Nat), closure := [], defaults := .none, kwdefaults := .none, doc := .none, pyModule := .str (.ofString "gasledger.state") (512 : Nat), annotations := Option.none, code := .ref (379 : Nat), closureTuple := .none, builtins := (0 : Nat) }, (List.toArray [])⟩
noncomputable def o381 : Params → Obj := fun P => ⟨.type "tuple", Option.none, .seq (List.toArray []) (0 : Nat), (List.toArray [])⟩
noncomputable def o382 : Params → Obj := fun P => ⟨.none, Option.none, .fields (List.toArray []), (List.toArray [])⟩
noncomputable def o383 : Params → Obj := fun P => ⟨.type "tuple", Option.none, .seq (List.toArray [.str (.ofString "self") (726 : Nat), .str (.ofString "gas") (727 : Nat)]) (0 : Nat), (List.toArray [])⟩
noncomputable def o384 : Params → Obj := fun P => ⟨.type "tuple", Option.none, .seq (List.toArray []) (0 : Nat), (List.toArray [])⟩
noncomputable def o385 : Params → Obj := fun P => ⟨.none, Option.none, .func { name := (.ofString "add_refund"), qualname := (.ofString "State.add_refund"), params := sA_28_23_true, body := .stmts sB_28_23_true, scope := sC_28_23_true, globals := (0 : Nat), closure := [], defaults := .none, kwdefaults := .none, doc := .none, pyModule := .none, annotations := Option.none, code := .none, closureTuple := .none, builtins := (0 : Nat) }, (List.toArray [])⟩
noncomputable def o386 : Params → Obj := fun P => ⟨.type "code", Option.none, .fields (List.toArray ((.str (.ofString "add_refund") (723 : Nat)) :: (.str (.ofString "State.add_refund") (724 : Nat)) :: (.str (.ofString "/claim/cut.py") (725 : Nat)) :: (.int 217 (0 : Nat)) :: (.int 2 (0 : Nat)) :: (.int 0 (0 : Nat)) :: (.int 0 (0 : Nat)) :: (.int 3 (0 : Nat)) :: (.ref (381 : Nat)) :: (.bool true) :: (.int 181 (0 : Nat)) :: (.ref (382 : Nat)) :: (.none) :: (.ref (383 : Nat)) :: (.ref (384 : Nat)) :: (.ref (385 : Nat)) :: (.int 728 (0 : Nat)) :: (.int 217 (0 : Nat)) :: (.str (.ofString "/claim/cut.py") (729 : Nat)) :: [])), (List.toArray [])⟩
noncomputable def o387 : Params → Obj := fun P => ⟨.type "function", Option.none, .func { name := (.ofString "add_refund"), qualname := (.ofString "State.add_refund"), params := sA_28_23_true, body := .stmts sB_28_23_true, scope := sC_28_23_true, globals := (3 : Nat), closure := [], defaults := .none, kwdefaults := .none, doc := .none, pyModule := .str (.ofString "gasledger.state") (512 : Nat), annotations := Option.none, code := .ref (386 : Nat), closureTuple := .none, builtins := (0 : Nat) }, (List.toArray [])⟩
noncomputable def o388 : Params → Obj := fun P => ⟨.type "tuple", Option.none, .seq (List.toArray []) (0 : Nat), (List.toArray [])⟩
noncomputable def o389 : Params → Obj := fun P => ⟨.none, Option.none, .fields (List.toArray []), (List.toArray [])⟩
noncomputable def o390 : Params → Obj := fun P => ⟨.type "tuple", Option.none, .seq (List.toArray [.str (.ofString "self") (734 : Nat), .str (.ofString "log") (735 : Nat)]) (0 : Nat), (List.toArray [])⟩
noncomputable def o391 : Params → Obj := fun P => ⟨.type "tuple", Option.none, .seq (List.toArray []) (0 : Nat), (List.toArray [])⟩
noncomputable def o392 : Params → Obj := fun P => ⟨.none, Option.none, .func { name := (.ofString "add_log"), qualname := (.ofString "State.add_log"), params := sA_28_24_true, body := .stmts sB_28_24_true, scope := sC_28_24_true, globals := (0 : Nat), closure := [], defaults := .none, kwdefaults := .none, doc := .none, pyModule := .none, annotations := Option.none, code := .none, closureTuple := .none, builtins := (0 : Nat) }, (List.toArray [])⟩
noncomputable def o393 : Params → Obj := fun P => ⟨.type "code", Option.none, .fields (List.toArray ((.str (.ofString "add_log") (731 : Nat)) :: (.str (.ofString "State.add_log") (732 : Nat)) :: (.str (.ofString "/claim/cut.py") (733 : Nat)) :: (.int 220 (0 : Nat)) :: (.int 2 (0 : Nat)) :: (.int 0 (0 : Nat)) :: (.int 0 (0 : Nat)) :: (.int 3 (0 : Nat)) :: (.ref (388 : Nat)) :: (.bool true) :: (.int 181 (0 : Nat)) :: (.ref (389 : Nat)) :: (.none) :: (.ref (390 : Nat)) :: (.ref (391 : Nat)) :: (.ref (392 : Nat)) :: (.int 736 (0 : Nat)) :: (.int 220 (0 : Nat)) :: (.str (.ofString "/claim/cut.py") (737 : Nat)) :: [])), (List.toArray [])⟩
noncomputable def o394 : Params → Obj := fun P => ⟨.type "function", Option.none, .func { name := (.ofString "add_log"), qualname := (.ofString "State.add_log"), params := sA_28_24_true, body := .stmts sB_28_24_true, scope := sC_28_24_true, globals := (3 : Nat), closure := [], defaults := .none, kwdefaults := .none, doc := .none, pyModule := .str (.ofString "gasledger.state") (512 : Nat), annotations := Option.none, code := .ref (393 : Nat), closureTuple := .none, builtins := (0 : Nat) }, (List.toArray [])⟩
noncomputable def o395 : Params → Obj := fun P => ⟨.type "tuple", Option.none, .seq (List.toArray []) (0 : Nat), (List.toArray [])⟩
noncomputable def o396 : Params → Obj := fun P => ⟨.none, Option.none, .fields (List.toArray []), (List.toArray [])⟩
noncomputable def o397 : Params → Obj := fun P => ⟨.type "tuple", Option.none, .seq (List.toArray [.str (.ofString "self") (742 : Nat), .str (.ofString "address") (743 : Nat)]) (0 : Nat), (List.toArray [])⟩
noncomputable def o398 : Params → Obj := fun P => ⟨.type "tuple", Option.none, .seq (List.toArray []) (0 : Nat), (List.toArray [])⟩
noncomputable def o399 : Params → Obj := fun P => ⟨.none, Option.none, .func { name := (.ofString "destroy"), qualname := (.ofString "State.destroy"), params := sA_28_25_true, body := .stmts sB_28_25_true, scope := sC_28_25_true, globals := (0 : Nat), closure := [], defaults := .none, kwdefaults := .none, doc := .none, pyModule := .none, annotations := Option.none, code := .none, closureTuple := .none, builtins := (0 : Nat) }, (List.toArray [])⟩
noncomputable def o400 : Params → Obj := fun P => ⟨.type "code", Option.none, .fields (List.toArray ((.str (.ofString "destroy") (739 : Nat)) :: (.str (.ofString "State.destroy") (740 : Nat)) :: (.str (.ofString "/claim/cut.py") (741 : Nat)) :: (.int 223 (0 : Nat)) :: (.int 2 (0 : Nat)) :: (.int 0 (0 : Nat)) :: (.int 0 (0 : Nat)) :: (.int 3 (0 : Nat)) :: (.ref (395 : Nat)) :: (.bool true) :: (.int 181 (0 : Nat)) :: (.ref (396 : Nat)) :: (.none) :: (.ref (397 : Nat)) :: (.ref (398 : Nat)) :: (.ref (399 : Nat)) :: (.int 744 (0 : Nat)) :: (.int 223 (0 : Nat)) :: (.str (.ofString "/claim/cut.py") (745 : Nat)) :: [])), (List.toArray [])⟩
noncomputable def o401 : Params → Obj := fun P => ⟨.type "function", Option.none, .func { name := (.ofString "destroy"), qualname := (.ofString "State.destroy"), params := sA_28_25_true, body := .stmts sB_28_25_true, scope := sC_28_25_true, globals := (3 : Nat), closure := [], defaults := .none, kwdefaults := .none, doc := .none, pyModule := .str (.ofString "gasledger.state") (512 : Nat), annotations := Option.none, code := .ref (400 : Nat), closureTuple := .none, builtins := (0 : Nat) }, (List.toArray [])⟩
noncomputable def o402 : Params → Obj := fun P => ⟨.type "tuple", Option.none, .seq (List.toArray []) (0 : Nat), (List.toArray [])⟩
noncomputable def o403 : Params → Obj := fun P => ⟨.none, Option.none, .fields (List.toArray []), (List.toArray [])⟩
noncomputable def o404 : Params → Obj := fun P => ⟨.type "tuple", Option.none, .seq (List.toArray [.str (.ofString "self") (750 : Nat), .str (.ofString "address") (751 : Nat)]) (0 : Nat), (List.toArray [])⟩
noncomputable def o405 : Params → Obj := fun P => ⟨.type "tuple", Option.none, .seq (List.toArray []) (0 : Nat), (List.toArray [])⟩
noncomputable def o406 : Params → Obj := fun P => ⟨.none, Option.none, .func { name := (.ofString "is_destroyed"), qualname := (.ofString "State.is_destroyed"), params := sA_28_26_true, body := .stmts sB_28_26_true, scope := sC_28_26_true, globals := (0 : Nat), closure := [], defaults := .none, kwdefaults := .none, doc := .none, pyModule := .none, annotations := Option.none, code := .none, closureTuple := .none, builtins := (0 : Nat) }, (List.toArray [])⟩
noncomputable def o407 : Params → Obj := fun P => ⟨.type "code", Option.none, .fields (List.toArray ((.str (.ofString "is_destroyed") (747 : Nat)) :: (.str (.ofString "State.is_destroyed") (748 : Nat)) :: (.str (.ofString "/claim/cut.py") (749 : Nat)) :: (.int 226 (0 : Nat)) :: (.int 2 (0 : Nat)) :: (.int 0 (0 : Nat)) :: (.int 0 (0 : Nat)) :: (.int 3 (0 : Nat)) :: (.ref (402 : Nat)) :: (.bool true) :: (.int 181 (0 : Nat)) :: (.ref (403 : Nat)) :: (.none) :: (.ref (404 : Nat)) :: (.ref (405 : Nat)) :: (.ref (406 : Nat)) :: (.int 752 (0 : Nat)) :: (.int 226 (0 : Nat)) :: (.str (.ofString "/claim/cut.py") (753 : Nat)) :: [])), (List.toArray [])⟩
noncomputable def o408 : Params → Obj := fun P => ⟨.type "function", Option.none, .func { name := (.ofString "is_destroyed"), qualname := (.ofString "State.is_destroyed"), params := sA_28_26_true, body := .stmts sB_28_26_true, scope := sC_28_26_true, globals := (3 : Nat), closure := [], defaults := .none, kwdefaults := .none, doc := .none, pyModule := .str (.ofString "gasledger.state") (512 : Nat), annotations := Option.none, code := .ref (407 : Nat), closureTuple := .none, builtins := (0 : Nat) }, (List.toArray [])⟩
noncomputable def o409 : Params → Obj := fun P => ⟨.type "tuple", Option.none, .seq (List.toArray []) (0 : Nat), (List.toArray [])⟩
noncomputable def o410 : Params → Obj := fun P => ⟨.none, Option.none, .fields (List.toArray []), (List.toArray [])⟩
noncomputable def o411 : Params → Obj := fun P => ⟨.type "tuple", Option.none, .seq (List.toArray [.str (.ofString "self") (758 : Nat)]) (0 : Nat), (List.toArray [])⟩
noncomputable def o412 : Params → Obj := fun P => ⟨.type "tuple", Option.none, .seq (List.toArray []) (0 : Nat), (List.toArray [])⟩
noncomputable def o413 : Params → Obj := fun P => ⟨.none, Option.none, .func { name := (.ofString "mark"), qualname := (.ofString "State.mark"), params := sA_28_27_true, body := .stmts sB_28_27_true, scope := sC_28_27_true, globals := (0 : Nat), closure := [], defaults := .none, kwdefaults := .none, doc := .none, pyModule := .none, annotations := Option.none, code := .none, closureTuple := .none, builtins := (0 : Nat) }, (List.toArray [])⟩
noncomputable def o414 : Params → Obj := fun P => ⟨.type "code", Option.none, .fields (List.toArray ((.str (.ofString "mark") (755 : Nat)) :: (.str (.ofString "State.mark") (756 : Nat)) :: (.str (.ofString "/claim/cut.py") (757 : Nat)) :: (.int 229 (0 : Nat)) :: (.int 1 (0 : Nat)) :: (.int 0 (0 : Nat)) :: (.int 0 (0 : Nat)) :: (.int 3 (0 : Nat)) :: (.ref (409 : Nat)) :: (.bool true) :: (.int 181 (0 : Nat)) :: (.ref (410 : Nat)) :: (.none) :: (.ref (411 : Nat)) :: (.ref (412 : Nat)) :: (.ref (413 : Nat)) :: (.int 759 (0 : Nat)) :: (.int 229 (0 : Nat)) :: (.str (.ofString "/claim/cut.py") (760 : Nat)) :: [])), (List.toArray [])⟩
noncomputable def o415 : Params → Obj := fun P => ⟨.type "function", Option.none, .func { name := (.ofString "mark"), qualname := (.ofString "State.mark"), params := sA_28_27_true, body := .stmts sB_28_27_true, scope := sC_28_27_true, globals := (3 : Nat), closure := [], defaults := .none, kwdefaults := .none, doc := .none, pyModule := .str (.ofString "gasledger.state") (512 : Nat), annotations := Option.none, code := .ref (414 : Nat), closureTuple := .none, builtins := (0 : Nat) }, (List.toArray [])⟩
noncomputable def o416 : Params → Obj := fun P => ⟨.type "tuple", Option.none, .seq (List.toArray []) (0 : Nat), (List.toArray [])⟩
noncomputable def o417 : Params → Obj := fun P => ⟨.none, Option.none, .fields (List.toArray []), (List.toArray [])⟩
noncomputable def o418 : Params → Obj := fun P => ⟨.type "tuple", Option.none, .seq (List.toArray [.str (.ofString "self") (765 : Nat), .str (.ofString "mark") (766 : Nat)]) (0 : Nat), (List.toArray [])⟩
noncomputable def o419 : Params → Obj := fun P => ⟨.type "tuple", Option.none, .seq (List.toArray []) (0 : Nat), (List.toArray [])⟩
noncomputable def o420 : Params → Obj := fun P => ⟨.none, Option.none, .func { name := (.ofString "back"), qualname := (.ofString "State.back"), params := sA_28_28_true, body := .stmts sB_28_28_true, scope := sC_28_28_true, globals := (0 : Nat), closure := [], defaults := .none, kwdefaults := .none, doc := .none, pyModule := .none, annotations := Option.none, code := .none, closureTuple := .none, builtins := (0 : Nat) }, (List.toArray [])⟩
noncomputable def o421 : Params → Obj := fun P => ⟨.type "code", Option.none, .fields (List.toArray ((.str (.ofString "back") (762 : Nat)) :: (.str (.ofString "State.back") (763 : Nat)) :: (.str (.ofString "/claim/cut.py") (764 : Nat)) :: (.int 232 (0 : Nat)) :: (.int 2 (0 : Nat)) :: (.int 0 (0 : Nat)) :: (.int 0 (0 : Nat)) :: (.int 3 (0 : Nat)) :: (.ref (416 : Nat)) :: (.bool true) :: (.int 181 (0 : Nat)) :: (.ref (417 : Nat)) :: (.none) :: (.ref (418 : Nat)) :: (.ref (419 : Nat)) :: (.ref (420 : Nat)) :: (.int 767 (0 : Nat)) :: (.int 232 (0 : Nat)) :: (.str (.ofString "/claim/cut.py") (768 : Nat)) :: [])), (List.toArray [])⟩
noncomputable def o422 : Params → Obj := fun P => ⟨.type "function", Option.none, .func { name := (.ofString "back"), qualname := (.ofString "State.back"), params := sA_28_28_true, body := .stmts sB_28_28_true, scope := sC_28_28_true, globals := (3 : Nat), closure := [], defaults := .none, kwdefaults := .none, doc := .none, pyModule := .str (.ofString "gasledger.state") (512 : Nat), annotations := Option.none, code := .ref (421 : Nat), closureTuple := .none, builtins := (0 : Nat) }, (List.toArray [])⟩
noncomputable def o423 : Params → Obj := fun P => ⟨.type "tuple", Option.none, .seq (List.toArray []) (0 : Nat), (List.toArray [])⟩
noncomputable def o424 : Params → Obj := fun P => ⟨.none, Option.none, .fields (List.toArray []), (List.toArray [])⟩
noncomputable def o425 : Params → Obj := fun P => ⟨.type "tuple", Option.none, .seq (List.toArray [.str (.ofString "self") (773 : Nat)]) (0 : Nat), (List.toArray [])⟩
noncomputable def o426 : Params → Obj := fun P => ⟨.type "tuple", Option.none, .seq (List.toArray []) (0 : Nat), (List.toArray [])⟩
noncomputable def o427 : Params → Obj := fun P => ⟨.none, Option.none, .func { name := (.ofString "begin"), qualname := (.ofString "State.begin"), params := sA_28_29_true, body := .stmts sB_28_29_true, scope := sC_28_29_true, globals := (0 : Nat), closure := [], defaults := .none, kwdefaults := .none, doc := .none, pyModule := .none, annotations := Option.none, code := .none, closureTuple := .none, builtins := (0 : Nat) }, (List.toArray [])⟩
noncomputable def o428 : Params → Obj := fun P => ⟨.type "code", Option.none, .fields (List.toArray ((.str (.ofString "begin") (770 : Nat)) :: (.str (.ofString "State.begin") (771 : Nat)) :: (.str (.ofString "/claim/cut.py") (772 : Nat)) :: (.int 238 (0 : Nat)) :: (.int 1 (0 : Nat)) :: (.int 0 (0 : Nat)) :: (.int 0 (0 : Nat)) :: (.int 3 (0 : Nat)) :: (.ref (423 : Nat)) :: (.bool true) :: (.int 181 (0 : Nat)) :: (.ref (424 : Nat)) :: (.none) :: (.ref (425 : Nat)) :: (.ref (426 : Nat)) :: (.ref (427 : Nat)) :: (.int 774 (0 : Nat)) :: (.int 238 (0 : Nat)) :: (.str (.ofString "/claim/cut.py") (775 : Nat)) :: [])), (List.toArray [])⟩
noncomputable def o429 : Params → Obj := fun P => ⟨.type "function", Option.none, .func { name := (.ofString "begin"), qualname := (.ofString "State.begin"), params := sA_28_29_true, body := .stmts sB_28_29_true, scope := sC_28_29_true, globals := (3 : Nat), closure := [], defaults := .none, kwdefaults := .none, doc := .none, pyModule := .str (.ofString "gasledger.state") (512 : Nat), annotations := Option.none, code := .ref (428 : Nat), closureTuple := .none, builtins := (0 : Nat) }, (List.toArray [])⟩
noncomputable def o430 : Params → Obj := fun P => ⟨.type "tuple", Option.none, .seq (List.toArray []) (0 : Nat), (List.toArray [])⟩
noncomputable def o431 : Params → Obj := fun P => ⟨.none, Option.none, .fields (List.toArray []), (List.toArray [])⟩
noncomputable def o432 : Params → Obj := fun P => ⟨.type "tuple", Option.none, .seq (List.toArray [.str (.ofString "self") (780 : Nat), .str (.ofString "address") (781 : Nat)]) (0 : Nat), (List.toArray [])⟩
noncomputable def o433 : Params → Obj := fun P => ⟨.type "tuple", Option.none, .seq (List.toArray []) (0 : Nat), (List.toArray [])⟩
noncomputable def o434 : Params → Obj := fun P => ⟨.none, Option.none, .func { name := (.ofString "end"), qualname := (.ofString "State.end"), params := sA_28_30_true, body := .stmts sB_28_30_true, scope := sC_28_30_true, globals := (0 : Nat), closure := [], defaults := .none, kwdefaults := .none, doc := .none, pyModule := .none, annotations := Option.none, code := .none, closureTuple := .none, builtins := (0 : Nat) }, (List.toArray [])⟩
noncomputable def o435 : Params → Obj := fun P => ⟨.type "code", Option.none, .fields (List.toArray ((.str (.ofString "end") (777 : Nat)) :: (.str (.ofString "State.end") (778 : Nat)) :: (.str (.ofString "/claim/cut.py") (779 : Nat)) :: (.int 243 (0 : Nat)) :: (.int 1 (0 : Nat)) :: (.int 0 (0 : Nat)) :: (.int 0 (0 : Nat)) :: (.int 3 (0 : Nat)) :: (.ref (430 : Nat)) :: (.bool true) :: (.int 181 (0 : Nat)) :: (.ref (431 : Nat)) :: (.none) :: (.ref (432 : Nat)) :: (.ref (433 : Nat)) :: (.ref (434 : Nat)) :: (.int 782 (0 : Nat)) :: (.int 243 (0 : Nat)) :: (.str (.ofString "/claim/cut.py") (783 : Nat)) :: [])), (List.toArray [])⟩
noncomputable def o436 : Params → Obj := fun P => ⟨.type "function", Option.none, .func { name := (.ofString "end"), qualname := (.ofString "State.end"), params := sA_28_30_true, body := .stmts sB_28_30_true, scope := sC_28_30_true, globals := (3 : Nat), closure := [], defaults := .none, kwdefaults := .none, doc := .none, pyModule := .str (.ofString "gasledger.state") (512 : Nat), annotations := Option.none, code := .ref (435 : Nat), closureTuple := .none, builtins := (0 : Nat) }, (List.toArray [])⟩
noncomputable def o437 : Params → Obj := fun P => ⟨.type "tuple", Option.none, .seq (List.toArray ((.str (.ofString "accounts") (785 : Nat)) :: (.str (.ofString "destroyed") (786 : Nat)) :: (.str (.ofString "journal") (787 : Nat)) :: (.str (.ofString "logs") (788 : Nat)) :: (.str (.ofString "originals") (789 : Nat)) :: (.str (.ofString "refund") (790 : Nat)) :: (.str (.ofString "setting") (791 : Nat)) :: (.str (.ofString "touched") (792 : Nat)) :: (.str (.ofString "warm_ones") (793 : Nat)) :: (.str (.ofString "warm_slots") (794 : Nat)) :: [])) (0 : Nat), (List.toArray [])⟩
noncomputable def o438 : Params → Obj := fun P => ⟨.type "dict", Option.none, .dict (List.toArray ((⟨PyData.keyHash P (.ofString "__module__"), .str (.ofString "__module__") (521 : Nat), .str (.ofString "gasledger.state") (512 : Nat)⟩) :: (⟨PyData.keyHash P (.ofString "__firstlineno__"), .str (.ofString "__firstlineno__") (525 : Nat), .int 114 (524 : Nat)⟩) :: (⟨PyData.keyHash P (.ofString "__init__"), .str (.ofString "__init__") (533 : Nat), .ref (228 : Nat)⟩) :: (⟨PyData.keyHash P (.ofString "account"), .str (.ofString "account") (541 : Nat), .ref (235 : Nat)⟩) :: (⟨PyData.keyHash P (.ofString "addresses"), .str (.ofString "addresses") (548 : Nat), .ref (242 : Nat)⟩) :: (⟨PyData.keyHash P (.ofString "total"), .str (.ofString "total") (554 : Nat), .ref (247 : Nat)⟩) :: (⟨PyData.keyHash P (.ofString "written"), .str (.ofString "written") (562 : Nat), .ref (254 : Nat)⟩) :: (⟨PyData.keyHash P (.ofString "touch"), .str (.ofString "touch") (570 : Nat), .ref (261 : Nat)⟩) :: (⟨PyData.keyHash P (.ofString "exists"), .str (.ofString "exists") (578 : Nat), .ref (268 : Nat)⟩) :: (⟨PyData.keyHash P (.ofString "is_empty"), .str (.ofString "is_empty") (586 : Nat), .ref (275 : Nat)⟩) :: (⟨PyData.keyHash P (.ofString "balance"), .str (.ofString "balance") (594 : Nat), .ref (282 : Nat)⟩) :: (⟨PyData.keyHash P (.ofString "set_balance"), .str (.ofString "set_balance") (604 : Nat), .ref (289 : Nat)⟩) :: (⟨PyData.keyHash P (.ofString "moved"), .str (.ofString "moved") (614 : Nat), .ref (296 : Nat)⟩) :: (⟨PyData.keyHash P (.ofString "nonce"), .str (.ofString "nonce") (622 : Nat), .ref (303 : Nat)⟩) :: (⟨PyData.keyHash P (.ofString "set_nonce"), .str (.ofString "set_nonce") (632 : Nat), .ref (310 : Nat)⟩) :: (⟨PyData.keyHash P (.ofString "code"), .str (.ofString "code") (640 : Nat), .ref (317 : Nat)⟩) :: (⟨PyData.keyHash P (.ofString "set_code"), .str (.ofString "set_code") (650 : Nat), .ref (324 : Nat)⟩) :: (⟨PyData.keyHash P (.ofString "code_hash"), .str (.ofString "code_hash") (658 : Nat), .ref (331 : Nat)⟩) :: (⟨PyData.keyHash P (.ofString "slot"), .str (.ofString "slot") (667 : Nat), .ref (338 : Nat)⟩) :: (⟨PyData.keyHash P (.ofString "set_slot"), .str (.ofString "set_slot") (679 : Nat), .ref (345 : Nat)⟩) :: (⟨PyData.keyHash P (.ofString "original_slot"), .str (.ofString "original_slot") (688 : Nat), .ref (352 : Nat)⟩) :: (⟨PyData.keyHash P (.ofString "is_warm"), .str (.ofString "is_warm") (696 : Nat), .ref (359 : Nat)⟩) :: (⟨PyData.keyHash P (.ofString "warm"), .str (.ofString "warm") (704 : Nat), .ref (366 : Nat)⟩) :: (⟨PyData.keyHash P (.ofString "is_warm_slot"), .str (.ofString "is_warm_slot") (713 : Nat), .ref (373 : Nat)⟩) :: (⟨PyData.keyHash P (.ofString "warm_slot"), .str (.ofString "warm_slot") (722 : Nat), .ref (380 : Nat)⟩) :: (⟨PyData.keyHash P (.ofString "add_refund"), .str (.ofString "add_refund") (730 : Nat), .ref (387 : Nat)⟩) :: (⟨PyData.keyHash P (.ofString "add_log"), .str (.ofString "add_log") (738 : Nat), .ref (394 : Nat)⟩) :: (⟨PyData.keyHash P (.ofString "destroy"), .str (.ofString "destroy") (746 : Nat), .ref (401 : Nat)⟩) :: (⟨PyData.keyHash P (.ofString "is_destroyed"), .str (.ofString "is_destroyed") (754 : Nat), .ref (408 : Nat)⟩) :: (⟨PyData.keyHash P (.ofString "mark"), .str (.ofString "mark") (761 : Nat), .ref (415 : Nat)⟩) :: (⟨PyData.keyHash P (.ofString "back"), .str (.ofString "back") (769 : Nat), .ref (422 : Nat)⟩) :: (⟨PyData.keyHash P (.ofString "begin"), .str (.ofString "begin") (776 : Nat), .ref (429 : Nat)⟩) :: (⟨PyData.keyHash P (.ofString "end"), .str (.ofString "end") (784 : Nat), .ref (436 : Nat)⟩) :: (⟨PyData.keyHash P (.ofString "__static_attributes__"), .str (.ofString "__static_attributes__") (795 : Nat), .ref (437 : Nat)⟩) :: (⟨PyData.keyHash P (.ofString "__dict__"), .str (.ofString "__dict__") (797 : Nat), .ref (440 : Nat)⟩) :: (⟨PyData.keyHash P (.ofString "__weakref__"), .str (.ofString "__weakref__") (799 : Nat), .ref (441 : Nat)⟩) :: (⟨PyData.keyHash P (.ofString "__doc__"), .str (.ofString "__doc__") (800 : Nat), .none⟩) :: [])) (4 : Nat), (List.toArray [])⟩
noncomputable def o439 : Params → Obj := fun P => ⟨.type "type", Option.none, .cls { name := (.ofString "State"), bases := [.type "object"], mro := [.ref (439 : Nat), .type "object"], ns := (438 : Nat), qualname := (.ofString "State"), hasDict := true, slotNames := [], subclasses := [], abstract := false, collection := Option.none, hasDel := false }, (List.toArray [Option.none, Option.none, Option.some (.str (.ofString "State") (514 : Nat)), Option.some (.str (.ofString "State") (522 : Nat)), Option.some (.builtin "object.__new__"), Option.some (.bool true)])⟩
noncomputable def o440 : Params → Obj := fun P => ⟨.type "getset_descriptor", Option.none, .fields (List.toArray [.str (.ofString "__dict__") (796 : Nat), .ref (439 : Nat), .builtin "function.__dict__", .builtin "function.__dict__#set"]), (List.toArray [])⟩
noncomputable def o441 : Params → Obj := fun P => ⟨.type "getset_descriptor", Option.none, .fields (List.toArray [.str (.ofString "__weakref__") (798 : Nat), .ref (439 : Nat), .builtin "ExceptionGroup.__weakref__", .none]), (List.toArray [])⟩
noncomputable def o442 : Params → Obj := fun P => ⟨.type "super", Option.none, .fields (List.toArray [.ref (439 : Nat), .ref (439 : Nat), .ref (439 : Nat)]), (List.toArray [])⟩
noncomputable def o443 : Params → Obj := fun P => ⟨.type "builtin_function_or_method", Option.none, .fields (List.toArray [.builtin "object.__init_subclass__", .ref (439 : Nat)]), (List.toArray [])⟩
noncomputable def o444 : Params → Obj := fun P => ⟨.type "tuple", Option.none, .seq (List.toArray []) (0 : Nat), (List.toArray [])⟩
noncomputable def o445 : Params → Obj := fun P => ⟨.none, Option.none, .fields (List.toArray []), (List.toArray [])⟩
noncomputable def o446 : Params → Obj := fun P => ⟨.type "tuple", Option.none, .seq (List.toArray [.str (.ofString "well") (808 : Nat), .str (.ofString "many") (809 : Nat), .str (.ofString "spot") (810 : Nat), .str (.ofString "fed") (811 : Nat)]) (0 : Nat), (List.toArray [])⟩
noncomputable def o447 : Params → Obj := fun P => ⟨.type "tuple", Option.none, .seq (List.toArray []) (0 : Nat), (List.toArray [])⟩
noncomputable def o448 : Params → Obj := fun P => ⟨.none, Option.none, .func { name := (.ofString "_law_draw"), qualname := (.ofString "_law_draw"), params := sA_30_0_false, body := .stmts sB_30_0_false, scope := sC_30_0_false, globals := (0 : Nat), closure := [], defaults := .none, kwdefaults := .none, doc := .none, pyModule := .none, annotations := Option.none, code := .none, closureTuple := .none, builtins := (0 : Nat) }, (List.toArray [])⟩
noncomputable def o449 : Params → Obj := fun P => ⟨.type "code", Option.none, .fields (List.toArray ((.str (.ofString "_law_draw") (805 : Nat)) :: (.str (.ofString "_law_draw") (806 : Nat)) :: (.str (.ofString "/claim/cut.py") (807 : Nat)) :: (.int 254 (0 : Nat)) :: (.int 2 (0 : Nat)) :: (.int 0 (0 : Nat)) :: (.int 0 (0 : Nat)) :: (.int 3 (0 : Nat)) :: (.ref (444 : Nat)) :: (.bool true) :: (.int 181 (0 : Nat)) :: (.ref (445 : Nat)) :: (.none) :: (.ref (446 : Nat)) :: (.ref (447 : Nat)) :: (.ref (448 : Nat)) :: (.int 812 (0 : Nat)) :: (.int 254 (0 : Nat)) :: (.str (.ofString "/claim/cut.py") (813 : Nat)) :: [])), (List.toArray [])⟩
noncomputable def o450 : Params → Obj := fun P => ⟨.type "function", Option.none, .func { name := (.ofString "_law_draw"), qualname := (.ofString "_law_draw"), params := sA_30_0_false, body := .stmts sB_30_0_false, scope := sC_30_0_false, globals := (3 : Nat), closure := [], defaults := .none, kwdefaults := .none, doc := .none, pyModule := .str (.ofString "law_sa0313_01") (803 : Nat), annotations := Option.none, code := .ref (449 : Nat), closureTuple := .none, builtins := (0 : Nat) }, (List.toArray [])⟩
noncomputable def o451 : Params → Obj := fun P => ⟨.type "tuple", Option.none, .seq (List.toArray []) (0 : Nat), (List.toArray [])⟩
noncomputable def o452 : Params → Obj := fun P => ⟨.none, Option.none, .fields (List.toArray []), (List.toArray [])⟩
noncomputable def o453 : Params → Obj := fun P => ⟨.type "tuple", Option.none, .seq (List.toArray [.str (.ofString "well") (818 : Nat), .str (.ofString "most") (819 : Nat), .str (.ofString "home") (820 : Nat), .str (.ofString "some") (821 : Nat)]) (0 : Nat), (List.toArray [])⟩
noncomputable def o454 : Params → Obj := fun P => ⟨.type "tuple", Option.none, .seq (List.toArray []) (0 : Nat), (List.toArray [])⟩
noncomputable def o455 : Params → Obj := fun P => ⟨.none, Option.none, .func { name := (.ofString "_law_gift"), qualname := (.ofString "_law_gift"), params := sA_31_0_false, body := .stmts sB_31_0_false, scope := sC_31_0_false, globals := (0 : Nat), closure := [], defaults := .none, kwdefaults := .none, doc := .none, pyModule := .none, annotations := Option.none, code := .none, closureTuple := .none, builtins := (0 : Nat) }, (List.toArray [])⟩
noncomputable def o456 : Params → Obj := fun P => ⟨.type "code", Option.none, .fields (List.toArray ((.str (.ofString "_law_gift") (815 : Nat)) :: (.str (.ofString "_law_gift") (816 : Nat)) :: (.str (.ofString "/claim/cut.py") (817 : Nat)) :: (.int 259 (0 : Nat)) :: (.int 2 (0 : Nat)) :: (.int 0 (0 : Nat)) :: (.int 0 (0 : Nat)) :: (.int 3 (0 : Nat)) :: (.ref (451 : Nat)) :: (.bool true) :: (.int 181 (0 : Nat)) :: (.ref (452 : Nat)) :: (.none) :: (.ref (453 : Nat)) :: (.ref (454 : Nat)) :: (.ref (455 : Nat)) :: (.int 822 (0 : Nat)) :: (.int 259 (0 : Nat)) :: (.str (.ofString "/claim/cut.py") (823 : Nat)) :: [])), (List.toArray [])⟩
noncomputable def o457 : Params → Obj := fun P => ⟨.type "function", Option.none, .func { name := (.ofString "_law_gift"), qualname := (.ofString "_law_gift"), params := sA_31_0_false, body := .stmts sB_31_0_false, scope := sC_31_0_false, globals := (3 : Nat), closure := [], defaults := .none, kwdefaults := .none, doc := .none, pyModule := .str (.ofString "law_sa0313_01") (803 : Nat), annotations := Option.none, code := .ref (456 : Nat), closureTuple := .none, builtins := (0 : Nat) }, (List.toArray [])⟩
noncomputable def o458 : Params → Obj := fun P => ⟨.type "tuple", Option.none, .seq (List.toArray []) (0 : Nat), (List.toArray [])⟩
noncomputable def o459 : Params → Obj := fun P => ⟨.none, Option.none, .fields (List.toArray []), (List.toArray [])⟩
noncomputable def o460 : Params → Obj := fun P => ⟨.none, Option.none, .func { name := (.ofString "_law_left"), qualname := (.ofString "_law_left"), params := sA_32_0_false, body := .stmts sB_32_0_false, scope := sC_32_0_false, globals := (0 : Nat), closure := [], defaults := .none, kwdefaults := .none, doc := .none, pyModule := .none, annotations := Option.none, code := .none, closureTuple := .none, builtins := (0 : Nat) }, (List.toArray [])⟩
noncomputable def o461 : Params → Obj := fun P => ⟨.type "code", Option.none, .fields (List.toArray ((.str (.ofString "_law_left") (825 : Nat)) :: (.str (.ofString "_law_left") (826 : Nat)) :: (.str (.ofString "/claim/cut.py") (827 : Nat)) :: (.int 263 (0 : Nat)) :: (.int 1 (0 : Nat)) :: (.int 0 (0 : Nat)) :: (.int 0 (0 : Nat)) :: (.int 3 (0 : Nat)) :: (.ref (458 : Nat)) :: (.bool true) :: (.int 181 (0 : Nat)) :: (.ref (459 : Nat)) :: (.none) :: (.none) :: (.none) :: (.ref (460 : Nat)) :: (.int 828 (0 : Nat)) :: (.int 263 (0 : Nat)) :: (.str (.ofString "/claim/cut.py") (829 : Nat)) :: [])), (List.toArray [])⟩
noncomputable def o462 : Params → Obj := fun P => ⟨.type "function", Option.none, .func { name := (.ofString "_law_left"), qualname := (.ofString "_law_left"), params := sA_32_0_false, body := .stmts sB_32_0_false, scope := sC_32_0_false, globals := (3 : Nat), closure := [], defaults := .none, kwdefaults := .none, doc := .none, pyModule := .str (.ofString "law_sa0313_01") (803 : Nat), annotations := Option.none, code := .ref (461 : Nat), closureTuple := .none, builtins := (0 : Nat) }, (List.toArray [])⟩
noncomputable def o463 : Params → Obj := fun P => ⟨.type "tuple", Option.none, .seq (List.toArray []) (0 : Nat), (List.toArray [])⟩
noncomputable def o464 : Params → Obj := fun P => ⟨.none, Option.none, .fields (List.toArray []), (List.toArray [])⟩
noncomputable def o465 : Params → Obj := fun P => ⟨.none, Option.none, .func { name := (.ofString "_law_given"), qualname := (.ofString "_law_given"), params := sA_33_0_false, body := .stmts sB_33_0_false, scope := sC_33_0_false, globals := (0 : Nat), closure := [], defaults := .none, kwdefaults := .none, doc := .none, pyModule := .none, annotations := Option.none, code := .none, closureTuple := .none, builtins := (0 : Nat) }, (List.toArray [])⟩
noncomputable def o466 : Params → Obj := fun P => ⟨.type "code", Option.none, .fields (List.toArray ((.str (.ofString "_law_given") (831 : Nat)) :: (.str (.ofString "_law_given") (832 : Nat)) :: (.str (.ofString "/claim/cut.py") (833 : Nat)) :: (.int 265 (0 : Nat)) :: (.int 3 (0 : Nat)) :: (.int 0 (0 : Nat)) :: (.int 0 (0 : Nat)) :: (.int 3 (0 : Nat)) :: (.ref (463 : Nat)) :: (.bool true) :: (.int 181 (0 : Nat)) :: (.ref (464 : Nat)) :: (.none) :: (.none) :: (.none) :: (.ref (465 : Nat)) :: (.int 834 (0 : Nat)) :: (.int 265 (0 : Nat)) :: (.str (.ofString "/claim/cut.py") (835 : Nat)) :: [])), (List.toArray [])⟩
noncomputable def o467 : Params → Obj := fun P => ⟨.type "function", Option.none, .func { name := (.ofString "_law_given"), qualname := (.ofString "_law_given"), params := sA_33_0_false, body := .stmts sB_33_0_false, scope := sC_33_0_false, globals := (3 : Nat), closure := [], defaults := .none, kwdefaults := .none, doc := .none, pyModule := .str (.ofString "law_sa0313_01") (803 : Nat), annotations := Option.none, code := .ref (466 : Nat), closureTuple := .none, builtins := (0 : Nat) }, (List.toArray [])⟩
noncomputable def o468 : Params → Obj := fun P => ⟨.type "tuple", Option.none, .seq (List.toArray []) (0 : Nat), (List.toArray [])⟩
noncomputable def o469 : Params → Obj := fun P => ⟨.none, Option.none, .fields (List.toArray []), (List.toArray [])⟩
noncomputable def o470 : Params → Obj := fun P => ⟨.type "tuple", Option.none, .seq (List.toArray ((.str (.ofString "setting") (840 : Nat)) :: (.str (.ofString "book") (841 : Nat)) :: (.str (.ofString "state") (842 : Nat)) :: (.str (.ofString "home") (843 : Nat)) :: (.str (.ofString "nonce") (844 : Nat)) :: (.str (.ofString "held") (845 : Nat)) :: (.str (.ofString "code") (846 : Nat)) :: (.str (.ofString "slots") (847 : Nat)) :: (.str (.ofString "slot") (848 : Nat)) :: [])) (0 : Nat), (List.toArray [])⟩
noncomputable def o471 : Params → Obj := fun P => ⟨.type "tuple", Option.none, .seq (List.toArray []) (0 : Nat), (List.toArray [])⟩
noncomputable def o472 : Params → Obj := fun P => ⟨.none, Option.none, .func { name := (.ofString "_law_state"), qualname := (.ofString "_law_state"), params := sA_34_0_false, body := .stmts sB_34_0_false, scope := sC_34_0_false, globals := (0 : Nat), closure := [], defaults := .none, kwdefaults := .none, doc := .none, pyModule := .none, annotations := Option.none, code := .none, closureTuple := .none, builtins := (0 : Nat) }, (List.toArray [])⟩
noncomputable def o473 : Params → Obj := fun P => ⟨.type "code", Option.none, .fields (List.toArray ((.str (.ofString "_law_state") (837 : Nat)) :: (.str (.ofString "_law_state") (838 : Nat)) :: (.str (.ofString "/claim/cut.py") (839 : Nat)) :: (.int 274 (0 : Nat)) :: (.int 2 (0 : Nat)) :: (.int 0 (0 : Nat)) :: (.int 0 (0 : Nat)) :: (.int 3 (0 : Nat)) :: (.ref (468 : Nat)) :: (.bool true) :: (.int 181 (0 : Nat)) :: (.ref (469 : Nat)) :: (.none) :: (.ref (470 : Nat)) :: (.ref (471 : Nat)) :: (.ref (472 : Nat)) :: (.int 849 (0 : Nat)) :: (.int 274 (0 : Nat)) :: (.str (.ofString "/claim/cut.py") (850 : Nat)) :: [])), (List.toArray [])⟩
noncomputable def o474 : Params → Obj := fun P => ⟨.type "function", Option.none, .func { name := (.ofString "_law_state"), qualname := (.ofString "_law_state"), params := sA_34_0_false, body := .stmts sB_34_0_false, scope := sC_34_0_false, globals := (3 : Nat), closure := [], defaults := .none, kwdefaults := .none, doc := .none, pyModule := .str (.ofString "law_sa0313_01") (803 : Nat), annotations := Option.none, code := .ref (473 : Nat), closureTuple := .none, builtins := (0 : Nat) }, (List.toArray [])⟩
noncomputable def o475 : Params → Obj := fun P => ⟨.type "tuple", Option.none, .seq (List.toArray []) (0 : Nat), (List.toArray [])⟩
noncomputable def o476 : Params → Obj := fun P => ⟨.none, Option.none, .fields (List.toArray []), (List.toArray [])⟩
noncomputable def o477 : Params → Obj := fun P => ⟨.none, Option.none, .func { name := (.ofString "_law_is_so"), qualname := (.ofString "_law_is_so"), params := sA_35_0_false, body := .stmts sB_35_0_false, scope := sC_35_0_false, globals := (0 : Nat), closure := [], defaults := .none, kwdefaults := .none, doc := .none, pyModule := .none, annotations := Option.none, code := .none, closureTuple := .none, builtins := (0 : Nat) }, (List.toArray [])⟩
noncomputable def o478 : Params → Obj := fun P => ⟨.type "code", Option.none, .fields (List.toArray ((.str (.ofString "_law_is_so") (852 : Nat)) :: (.str (.ofString "_law_is_so") (853 : Nat)) :: (.str (.ofString "/claim/cut.py") (854 : Nat)) :: (.int 285 (0 : Nat)) :: (.int 2 (0 : Nat)) :: (.int 0 (0 : Nat)) :: (.int 0 (0 : Nat)) :: (.int 3 (0 : Nat)) :: (.ref (475 : Nat)) :: (.bool true) :: (.int 181 (0 : Nat)) :: (.ref (476 : Nat)) :: (.none) :: (.none) :: (.none) :: (.ref (477 : Nat)) :: (.int 855 (0 : Nat)) :: (.int 285 (0 : Nat)) :: (.str (.ofString "/claim/cut.py") (856 : Nat)) :: [])), (List.toArray [])⟩
noncomputable def o479 : Params → Obj := fun P => ⟨.type "function", Option.none, .func { name := (.ofString "_law_is_so"), qualname := (.ofString "_law_is_so"), params := sA_35_0_false, body := .stmts sB_35_0_false, scope := sC_35_0_false, globals := (3 : Nat), closure := [], defaults := .none, kwdefaults := .none, doc := .none, pyModule := .str (.ofString "law_sa0313_01") (803 : Nat), annotations := Option.none, code := .ref (478 : Nat), closureTuple := .none, builtins := (0 : Nat) }, (List.toArray [])⟩
noncomputable def o480 : Params → Obj := fun P => ⟨.type "tuple", Option.none, .seq (List.toArray []) (0 : Nat), (List.toArray [])⟩
noncomputable def o481 : Params → Obj := fun P => ⟨.none, Option.none, .fields (List.toArray []), (List.toArray [])⟩
noncomputable def o482 : Params → Obj := fun P => ⟨.type "tuple", Option.none, .seq (List.toArray ((.str (.ofString "state") (861 : Nat)) :: (.str (.ofString "book") (862 : Nat)) :: (.str (.ofString "gifts") (863 : Nat)) :: (.str (.ofString "refused") (864 : Nat)) :: (.str (.ofString "at") (865 : Nat)) :: (.str (.ofString "home") (866 : Nat)) :: (.str (.ofString "amount") (867 : Nat)) :: (.str (.ofString "due") (868 : Nat)) :: (.str (.ofString "mark") (869 : Nat)) :: (.str (.ofString "is_taken") (870 : Nat)) :: (.str (.ofString "fault") (871 : Nat)) :: [])) (0 : Nat), (List.toArray [])⟩
noncomputable def o483 : Params → Obj := fun P => ⟨.type "tuple", Option.none, .seq (List.toArray []) (0 : Nat), (List.toArray [])⟩
noncomputable def o484 : Params → Obj := fun P => ⟨.none, Option.none, .func { name := (.ofString "_law_all_given"), qualname := (.ofString "_law_all_given"), params := sA_36_0_false, body := .stmts sB_36_0_false, scope := sC_36_0_false, globals := (0 : Nat), closure := [], defaults := .none, kwdefaults := .none, doc := .none, pyModule := .none, annotations := Option.none, code := .none, closureTuple := .none, builtins := (0 : Nat) }, (List.toArray [])⟩
noncomputable def o485 : Params → Obj := fun P => ⟨.type "code", Option.none, .fields (List.toArray ((.str (.ofString "_law_all_given") (858 : Nat)) :: (.str (.ofString "_law_all_given") (859 : Nat)) :: (.str (.ofString "/claim/cut.py") (860 : Nat)) :: (.int 289 (0 : Nat)) :: (.int 3 (0 : Nat)) :: (.int 0 (0 : Nat)) :: (.int 0 (0 : Nat)) :: (.int 3 (0 : Nat)) :: (.ref (480 : Nat)) :: (.bool true) :: (.int 181 (0 : Nat)) :: (.ref (481 : Nat)) :: (.none) :: (.ref (482 : Nat)) :: (.ref (483 : Nat)) :: (.ref (484 : Nat)) :: (.int 872 (0 : Nat)) :: (.int 289 (0 : Nat)) :: (.str (.ofString "/claim/cut.py") (873 : Nat)) :: [])), (List.toArray [])⟩
noncomputable def o486 : Params → Obj := fun P => ⟨.type "function", Option.none, .func { name := (.ofString "_law_all_given"), qualname := (.ofString "_law_all_given"), params := sA_36_0_false, body := .stmts sB_36_0_false, scope := sC_36_0_false, globals := (3 : Nat), closure := [], defaults := .none, kwdefaults := .none, doc := .none, pyModule := .str (.ofString "law_sa0313_01") (803 : Nat), annotations := Option.none, code := .ref (485 : Nat), closureTuple := .none, builtins := (0 : Nat) }, (List.toArray [])⟩
noncomputable def o487 : Params → Obj := fun P => ⟨.type "tuple", Option.none, .seq (List.toArray []) (0 : Nat), (List.toArray [])⟩
noncomputable def o488 : Params → Obj := fun P => ⟨.none, Option.none, .fields (List.toArray []), (List.toArray [])⟩
noncomputable def o489 : Params → Obj := fun P => ⟨.none, Option.none, .func { name := (.ofString "law"), qualname := (.ofString "law"), params := sA_37_0_false, body := .stmts sB_37_0_false, scope := sC_37_0_false, globals := (0 : Nat), closure := [], defaults := .none, kwdefaults := .none, doc := .none, pyModule := .none, annotations := Option.none, code := .none, closureTuple := .none, builtins := (0 : Nat) }, (List.toArray [])⟩
noncomputable def o490 : Params → Obj := fun P => ⟨.type "code", Option.none, .fields (List.toArray ((.str (.ofString "law") (875 : Nat)) :: (.str (.ofString "law") (876 : Nat)) :: (.str (.ofString "/claim/cut.py") (877 : Nat)) :: (.int 309 (0 : Nat)) :: (.int 1 (0 : Nat)) :: (.int 0 (0 : Nat)) :: (.int 0 (0 : Nat)) :: (.int 3 (0 : Nat)) :: (.ref (487 : Nat)) :: (.bool true) :: (.int 181 (0 : Nat)) :: (.ref (488 : Nat)) :: (.none) :: (.none) :: (.none) :: (.ref (489 : Nat)) :: (.int 878 (0 : Nat)) :: (.int 309 (0 : Nat)) :: (.str (.ofString "/claim/cut.py") (879 : Nat)) :: [])), (List.toArray [])⟩
noncomputable def o491 : Params → Obj := fun P => ⟨.type "function", Option.none, .func { name := (.ofString "law"), qualname := (.ofString "law"), params := sA_37_0_false, body := .stmts sB_37_0_false, scope := sC_37_0_false, globals := (3 : Nat), closure := [], defaults := .none, kwdefaults := .none, doc := .none, pyModule := .str (.ofString "law_sa0313_01") (803 : Nat), annotations := Option.none, code := .ref (490 : Nat), closureTuple := .none, builtins := (0 : Nat) }, (List.toArray [])⟩
noncomputable def b12 : Params → Obj := fun P => ⟨.none, Option.none, .fields (List.toArray []), (List.toArray [])⟩
noncomputable def treeB : Params → BT := fun P => .node (PySem.W.boot_o_0 P) (.node (PySem.W.boot_o_1 P) (.node (PySem.W.boot_o_3 P) (.node (PySem.W.boot_o_7 P) (.nil) (.nil)) (.node (o11 P) (.nil) (.nil))) (.node (PySem.W.boot_o_5 P) (.node (PySem.W.boot_o_9 P) (.nil) (.nil)) (.node (o13 P) (.nil) (.nil)))) (.node (PySem.W.boot_o_2 P) (.node (PySem.W.boot_o_4 P) (.node (PySem.W.boot_o_8 P) (.nil) (.nil)) (.node (b12 P) (.nil) (.nil))) (.node (PySem.W.boot_o_6 P) (.node (PySem.W.boot_o_10 P) (.nil) (.nil)) (.node (o14 P) (.nil) (.nil))))
noncomputable def treeF : Params → BT := fun P => .node (PySem.W.boot_o_0 P) (.node (PySem.W.boot_o_1 P) (.node (o3 P) (.node (PySem.W.boot_o_7 P) (.node (o15 P) (.node (o31 P) (.node (o63 P) (.node (o127 P) (.node (o255 P) (.nil) (.nil)) (.node (o383 P) (.nil) (.nil))) (.node (o191 P) (.node (o319 P) (.nil) (.nil)) (.node (o447 P) (.nil) (.nil)))) (.node (o95 P) (.node (o159 P) (.node (o287 P) (.nil) (.nil)) (.node (o415 P) (.nil) (.nil))) (.node (o223 P) (.node (o351 P) (.nil) (.nil)) (.node (o479 P) (.nil) (.nil))))) (.node (o47 P) (.node (o79 P) (.node (o143 P) (.node (o271 P) (.nil) (.nil)) (.node (o399 P) (.nil) (.nil))) (.node (o207 P) (.node (o335 P) (.nil) (.nil)) (.node (o463 P) (.nil) (.nil)))) (.node (o111 P) (.node (o175 P) (.node (o303 P) (.nil) (.nil)) (.node (o431 P) (.nil) (.nil))) (.node (o239 P) (.node (o367 P) (.nil) (.nil)) (.nil))))) (.node (o23 P) (.node (o39 P) (.node (o71 P) (.node (o135 P) (.node (o263 P) (.nil) (.nil)) (.node (o391 P) (.nil) (.nil))) (.node (o199 P) (.node (o327 P) (.nil) (.nil)) (.node (o455 P) (.nil) (.nil)))) (.node (o103 P) (.node (o167 P) (.node (o295 P) (.nil) (.nil)) (.node (o423 P) (.nil) (.nil))) (.node (o231 P) (.node (o359 P) (.nil) (.nil)) (.node (o487 P) (.nil) (.nil))))) (.node (o55 P) (.node (o87 P) (.node (o151 P) (.node (o279 P) (.nil) (.nil)) (.node (o407 P) (.nil) (.nil))) (.node (o215 P) (.node (o343 P) (.nil) (.nil)) (.node (o471 P) (.nil) (.nil)))) (.node (o119 P) (.node (o183 P) (.node (o311 P) (.nil) (.nil)) (.node (o439 P) (.nil) (.nil))) (.node (o247 P) (.node (o375 P) (.nil) (.nil)) (.nil)))))) (.node (o11 P) (.node (o19 P) (.node (o35 P) (.node (o67 P) (.node (o131 P) (.node (o259 P) (.nil) (.nil)) (.node (o387 P) (.nil) (.nil))) (.node (o195 P) (.node (o323 P) (.nil) (.nil)) (.node (o451 P) (.nil) (.nil)))) (.node (o99 P) (.node (o163 P) (.node (o291 P) (.nil) (.nil)) (.node (o419 P) (.nil) (.nil))) (.node (o227 P) (.node (o355 P) (.nil) (.nil)) (.node (o483 P) (.nil) (.nil))))) (.node (o51 P) (.node (o83 P) (.node (o147 P) (.node (o275 P) (.nil) (.nil)) (.node (o403 P) (.nil) (.nil))) (.node (o211 P) (.node (o339 P) (.nil) (.nil)) (.node (o467 P) (.nil) (.nil)))) (.node (o115 P) (.node (o179 P) (.node (o307 P) (.nil) (.nil)) (.node (o435 P) (.nil) (.nil))) (.node (o243 P) (.node (o371 P) (.nil) (.nil)) (.nil))))) (.node (o27 P) (.node (o43 P) (.node (o75 P) (.node (o139 P) (.node (o267 P) (.nil) (.nil)) (.node (o395 P) (.nil) (.nil))) (.node (o203 P) (.node (o331 P) (.nil) (.nil)) (.node (o459 P) (.nil) (.nil)))) (.node (o107 P) (.node (o171 P) (.node (o299 P) (.nil) (.nil)) (.node (o427 P) (.nil) (.nil))) (.node (o235 P) (.node (o363 P) (.nil) (.nil)) (.node (o491 P) (.nil) (.nil))))) (.node (o59 P) (.node (o91 P) (.node (o155 P) (.node (o283 P) (.nil) (.nil)) (.node (o411 P) (.nil) (.nil))) (.node (o219 P) (.node (o347 P) (.nil) (.nil)) (.node (o475 P) (.nil) (.nil)))) (.node (o123 P) (.node (o187 P) (.node (o315 P) (.nil) (.nil)) (.node (o443 P) (.nil) (.nil))) (.node (o251 P) (.node (o379 P) (.nil) (.nil)) (.nil))))))) (.node (PySem.W.boot_o_5 P) (.node (PySem.W.boot_o_9 P) (.node (o17 P) (.node (o33 P) (.node (o65 P) (.node (o129 P) (.node (o257 P) (.nil) (.nil)) (.node (o385 P) (.nil) (.nil))) (.node (o193 P) (.node (o321 P) (.nil) (.nil)) (.node (o449 P) (.nil) (.nil)))) (.node (o97 P) (.node (o161 P) (.node (o289 P) (.nil) (.nil)) (.node (o417 P) (.nil) (.nil))) (.node (o225 P) (.node (o353 P) (.nil) (.nil)) (.node (o481 P) (.nil) (.nil))))) (.node (o49 P) (.node (o81 P) (.node (o145 P) (.node (o273 P) (.nil) (.nil)) (.node (o401 P) (.nil) (.nil))) (.node (o209 P) (.node (o337 P) (.nil) (.nil)) (.node (o465 P) (.nil) (.nil)))) (.node (o113 P) (.node (o177 P) (.node (o305 P) (.nil) (.nil)) (.node (o433 P) (.nil) (.nil))) (.node (o241 P) (.node (o369 P) (.nil) (.nil)) (.nil))))) (.node (o25 P) (.node (o41 P) (.node (o73 P) (.node (o137 P) (.node (o265 P) (.nil) (.nil)) (.node (o393 P) (.nil) (.nil))) (.node (o201 P) (.node (o329 P) (.nil) (.nil)) (.node (o457 P) (.nil) (.nil)))) (.node (o105 P) (.node (o169 P) (.node (o297 P) (.nil) (.nil)) (.node (o425 P) (.nil) (.nil))) (.node (o233 P) (.node (o361 P) (.nil) (.nil)) (.node (o489 P) (.nil) (.nil))))) (.node (o57 P) (.node (o89 P) (.node (o153 P) (.node (o281 P) (.nil) (.nil)) (.node (o409 P) (.nil) (.nil))) (.node (o217 P) (.node (o345 P) (.nil) (.nil)) (.node (o473 P) (.nil) (.nil)))) (.node (o121 P) (.node (o185 P) (.node (o313 P) (.nil) (.nil)) (.node (o441 P) (.nil) (.nil))) (.node (o249 P) (.node (o377 P) (.nil) (.nil)) (.nil)))))) (.node (o13 P) (.node (o21 P) (.node (o37 P) (.node (o69 P) (.node (o133 P) (.node (o261 P) (.nil) (.nil)) (.node (o389 P) (.nil) (.nil))) (.node (o197 P) (.node (o325 P) (.nil) (.nil)) (.node (o453 P) (.nil) (.nil)))) (.node (o101 P) (.node (o165 P) (.node (o293 P) (.nil) (.nil)) (.node (o421 P) (.nil) (.nil))) (.node (o229 P) (.node (o357 P) (.nil) (.nil)) (.node (o485 P) (.nil) (.nil))))) (.node (o53 P) (.node (o85 P) (.node (o149 P) (.node (o277 P) (.nil) (.nil)) (.node (o405 P) (.nil) (.nil))) (.node (o213 P) (.node (o341 P) (.nil) (.nil)) (.node (o469 P) (.nil) (.nil)))) (.node (o117 P) (.node (o181 P) (.node (o309 P) (.nil) (.nil)) (.node (o437 P) (.nil) (.nil))) (.node (o245 P) (.node (o373 P) (.nil) (.nil)) (.nil))))) (.node (o29 P) (.node (o45 P) (.node (o77 P) (.node (o141 P) (.node (o269 P) (.nil) (.nil)) (.node (o397 P) (.nil) (.nil))) (.node (o205 P) (.node (o333 P) (.nil) (.nil)) (.node (o461 P) (.nil) (.nil)))) (.node (o109 P) (.node (o173 P) (.node (o301 P) (.nil) (.nil)) (.node (o429 P) (.nil) (.nil))) (.node (o237 P) (.node (o365 P) (.nil) (.nil)) (.nil)))) (.node (o61 P) (.node (o93 P) (.node (o157 P) (.node (o285 P) (.nil) (.nil)) (.node (o413 P) (.nil) (.nil))) (.node (o221 P) (.node (o349 P) (.nil) (.nil)) (.node (o477 P) (.nil) (.nil)))) (.node (o125 P) (.node (o189 P) (.node (o317 P) (.nil) (.nil)) (.node (o445 P) (.nil) (.nil))) (.node (o253 P) (.node (o381 P) (.nil) (.nil)) (.nil)))))))) (.node (o2 P) (.node (PySem.W.boot_o_4 P) (.node (PySem.W.boot_o_8 P) (.node (o16 P) (.node (o32 P) (.node (o64 P) (.node (o128 P) (.node (o256 P) (.nil) (.nil)) (.node (o384 P) (.nil) (.nil))) (.node (o192 P) (.node (o320 P) (.nil) (.nil)) (.node (o448 P) (.nil) (.nil)))) (.node (o96 P) (.node (o160 P) (.node (o288 P) (.nil) (.nil)) (.node (o416 P) (.nil) (.nil))) (.node (o224 P) (.node (o352 P) (.nil) (.nil)) (.node (o480 P) (.nil) (.nil))))) (.node (o48 P) (.node (o80 P) (.node (o144 P) (.node (o272 P) (.nil) (.nil)) (.node (o400 P) (.nil) (.nil))) (.node (o208 P) (.node (o336 P) (.nil) (.nil)) (.node (o464 P) (.nil) (.nil)))) (.node (o112 P) (.node (o176 P) (.node (o304 P) (.nil) (.nil)) (.node (o432 P) (.nil) (.nil))) (.node (o240 P) (.node (o368 P) (.nil) (.nil)) (.nil))))) (.node (o24 P) (.node (o40 P) (.node (o72 P) (.node (o136 P) (.node (o264 P) (.nil) (.nil)) (.node (o392 P) (.nil) (.nil))) (.node (o200 P) (.node (o328 P) (.nil) (.nil)) (.node (o456 P) (.nil) (.nil)))) (.node (o104 P) (.node (o168 P) (.node (o296 P) (.nil) (.nil)) (.node (o424 P) (.nil) (.nil))) (.node (o232 P) (.node (o360 P) (.nil) (.nil)) (.node (o488 P) (.nil) (.nil))))) (.node (o56 P) (.node (o88 P) (.node (o152 P) (.node (o280 P) (.nil) (.nil)) (.node (o408 P) (.nil) (.nil))) (.node (o216 P) (.node (o344 P) (.nil) (.nil)) (.node (o472 P) (.nil) (.nil)))) (.node (o120 P) (.node (o184 P) (.node (o312 P) (.nil) (.nil)) (.node (o440 P) (.nil) (.nil))) (.node (o248 P) (.node (o376 P) (.nil) (.nil)) (.nil)))))) (.node (o12 P) (.node (o20 P) (.node (o36 P) (.node (o68 P) (.node (o132 P) (.node (o260 P) (.nil) (.nil)) (.node (o388 P) (.nil) (.nil))) (.node (o196 P) (.node (o324 P) (.nil) (.nil)) (.node (o452 P) (.nil) (.nil)))) (.node (o100 P) (.node (o164 P) (.node (o292 P) (.nil) (.nil)) (.node (o420 P) (.nil) (.nil))) (.node (o228 P) (.node (o356 P) (.nil) (.nil)) (.node (o484 P) (.nil) (.nil))))) (.node (o52 P) (.node (o84 P) (.node (o148 P) (.node (o276 P) (.nil) (.nil)) (.node (o404 P) (.nil) (.nil))) (.node (o212 P) (.node (o340 P) (.nil) (.nil)) (.node (o468 P) (.nil) (.nil)))) (.node (o116 P) (.node (o180 P) (.node (o308 P) (.nil) (.nil)) (.node (o436 P) (.nil) (.nil))) (.node (o244 P) (.node (o372 P) (.nil) (.nil)) (.nil))))) (.node (o28 P) (.node (o44 P) (.node (o76 P) (.node (o140 P) (.node (o268 P) (.nil) (.nil)) (.node (o396 P) (.nil) (.nil))) (.node (o204 P) (.node (o332 P) (.nil) (.nil)) (.node (o460 P) (.nil) (.nil)))) (.node (o108 P) (.node (o172 P) (.node (o300 P) (.nil) (.nil)) (.node (o428 P) (.nil) (.nil))) (.node (o236 P) (.node (o364 P) (.nil) (.nil)) (.nil)))) (.node (o60 P) (.node (o92 P) (.node (o156 P) (.node (o284 P) (.nil) (.nil)) (.node (o412 P) (.nil) (.nil))) (.node (o220 P) (.node (o348 P) (.nil) (.nil)) (.node (o476 P) (.nil) (.nil)))) (.node (o124 P) (.node (o188 P) (.node (o316 P) (.nil) (.nil)) (.node (o444 P) (.nil) (.nil))) (.node (o252 P) (.node (o380 P) (.nil) (.nil)) (.nil))))))) (.node (PySem.W.boot_o_6 P) (.node (PySem.W.boot_o_10 P) (.node (o18 P) (.node (o34 P) (.node (o66 P) (.node (o130 P) (.node (o258 P) (.nil) (.nil)) (.node (o386 P) (.nil) (.nil))) (.node (o194 P) (.node (o322 P) (.nil) (.nil)) (.node (o450 P) (.nil) (.nil)))) (.node (o98 P) (.node (o162 P) (.node (o290 P) (.nil) (.nil)) (.node (o418 P) (.nil) (.nil))) (.node (o226 P) (.node (o354 P) (.nil) (.nil)) (.node (o482 P) (.nil) (.nil))))) (.node (o50 P) (.node (o82 P) (.node (o146 P) (.node (o274 P) (.nil) (.nil)) (.node (o402 P) (.nil) (.nil))) (.node (o210 P) (.node (o338 P) (.nil) (.nil)) (.node (o466 P) (.nil) (.nil)))) (.node (o114 P) (.node (o178 P) (.node (o306 P) (.nil) (.nil)) (.node (o434 P) (.nil) (.nil))) (.node (o242 P) (.node (o370 P) (.nil) (.nil)) (.nil))))) (.node (o26 P) (.node (o42 P) (.node (o74 P) (.node (o138 P) (.node (o266 P) (.nil) (.nil)) (.node (o394 P) (.nil) (.nil))) (.node (o202 P) (.node (o330 P) (.nil) (.nil)) (.node (o458 P) (.nil) (.nil)))) (.node (o106 P) (.node (o170 P) (.node (o298 P) (.nil) (.nil)) (.node (o426 P) (.nil) (.nil))) (.node (o234 P) (.node (o362 P) (.nil) (.nil)) (.node (o490 P) (.nil) (.nil))))) (.node (o58 P) (.node (o90 P) (.node (o154 P) (.node (o282 P) (.nil) (.nil)) (.node (o410 P) (.nil) (.nil))) (.node (o218 P) (.node (o346 P) (.nil) (.nil)) (.node (o474 P) (.nil) (.nil)))) (.node (o122 P) (.node (o186 P) (.node (o314 P) (.nil) (.nil)) (.node (o442 P) (.nil) (.nil))) (.node (o250 P) (.node (o378 P) (.nil) (.nil)) (.nil)))))) (.node (o14 P) (.node (o22 P) (.node (o38 P) (.node (o70 P) (.node (o134 P) (.node (o262 P) (.nil) (.nil)) (.node (o390 P) (.nil) (.nil))) (.node (o198 P) (.node (o326 P) (.nil) (.nil)) (.node (o454 P) (.nil) (.nil)))) (.node (o102 P) (.node (o166 P) (.node (o294 P) (.nil) (.nil)) (.node (o422 P) (.nil) (.nil))) (.node (o230 P) (.node (o358 P) (.nil) (.nil)) (.node (o486 P) (.nil) (.nil))))) (.node (o54 P) (.node (o86 P) (.node (o150 P) (.node (o278 P) (.nil) (.nil)) (.node (o406 P) (.nil) (.nil))) (.node (o214 P) (.node (o342 P) (.nil) (.nil)) (.node (o470 P) (.nil) (.nil)))) (.node (o118 P) (.node (o182 P) (.node (o310 P) (.nil) (.nil)) (.node (o438 P) (.nil) (.nil))) (.node (o246 P) (.node (o374 P) (.nil) (.nil)) (.nil))))) (.node (o30 P) (.node (o46 P) (.node (o78 P) (.node (o142 P) (.node (o270 P) (.nil) (.nil)) (.node (o398 P) (.nil) (.nil))) (.node (o206 P) (.node (o334 P) (.nil) (.nil)) (.node (o462 P) (.nil) (.nil)))) (.node (o110 P) (.node (o174 P) (.node (o302 P) (.nil) (.nil)) (.node (o430 P) (.nil) (.nil))) (.node (o238 P) (.node (o366 P) (.nil) (.nil)) (.nil)))) (.node (o62 P) (.node (o94 P) (.node (o158 P) (.node (o286 P) (.nil) (.nil)) (.node (o414 P) (.nil) (.nil))) (.node (o222 P) (.node (o350 P) (.nil) (.nil)) (.node (o478 P) (.nil) (.nil)))) (.node (o126 P) (.node (o190 P) (.node (o318 P) (.nil) (.nil)) (.node (o446 P) (.nil) (.nil))) (.node (o254 P) (.node (o382 P) (.nil) (.nil)) (.nil))))))))
noncomputable def heapA : Params → Heap := fun P => ⟨⟨PySem.W.boot_o_0 P :: PySem.W.boot_o_1 P :: PySem.W.boot_o_2 P :: PySem.W.boot_o_3 P :: PySem.W.boot_o_4 P :: PySem.W.boot_o_5 P :: PySem.W.boot_o_6 P :: PySem.W.boot_o_7 P :: PySem.W.boot_o_8 P :: PySem.W.boot_o_9 P :: PySem.W.boot_o_10 P :: o11 P ::
  b12 P :: o13 P :: o14 P :: []⟩, {}⟩
noncomputable def heapF : Params → Heap := fun P => ⟨⟨PySem.W.boot_o_0 P :: PySem.W.boot_o_1 P :: o2 P :: o3 P :: PySem.W.boot_o_4 P :: PySem.W.boot_o_5 P :: PySem.W.boot_o_6 P :: PySem.W.boot_o_7 P :: PySem.W.boot_o_8 P :: PySem.W.boot_o_9 P :: PySem.W.boot_o_10 P :: o11 P ::
  o12 P :: o13 P :: o14 P :: o15 P :: o16 P :: o17 P :: o18 P :: o19 P :: o20 P :: o21 P :: o22 P :: o23 P ::
  o24 P :: o25 P :: o26 P :: o27 P :: o28 P :: o29 P :: o30 P :: o31 P :: o32 P :: o33 P :: o34 P :: o35 P ::
  o36 P :: o37 P :: o38 P :: o39 P :: o40 P :: o41 P :: o42 P :: o43 P :: o44 P :: o45 P :: o46 P :: o47 P ::
  o48 P :: o49 P :: o50 P :: o51 P :: o52 P :: o53 P :: o54 P :: o55 P :: o56 P :: o57 P :: o58 P :: o59 P ::
  o60 P :: o61 P :: o62 P :: o63 P :: o64 P :: o65 P :: o66 P :: o67 P :: o68 P :: o69 P :: o70 P :: o71 P ::
  o72 P :: o73 P :: o74 P :: o75 P :: o76 P :: o77 P :: o78 P :: o79 P :: o80 P :: o81 P :: o82 P :: o83 P ::
  o84 P :: o85 P :: o86 P :: o87 P :: o88 P :: o89 P :: o90 P :: o91 P :: o92 P :: o93 P :: o94 P :: o95 P ::
  o96 P :: o97 P :: o98 P :: o99 P :: o100 P :: o101 P :: o102 P :: o103 P :: o104 P :: o105 P :: o106 P :: o107 P ::
  o108 P :: o109 P :: o110 P :: o111 P :: o112 P :: o113 P :: o114 P :: o115 P :: o116 P :: o117 P :: o118 P :: o119 P ::
  o120 P :: o121 P :: o122 P :: o123 P :: o124 P :: o125 P :: o126 P :: o127 P :: o128 P :: o129 P :: o130 P :: o131 P ::
  o132 P :: o133 P :: o134 P :: o135 P :: o136 P :: o137 P :: o138 P :: o139 P :: o140 P :: o141 P :: o142 P :: o143 P ::
  o144 P :: o145 P :: o146 P :: o147 P :: o148 P :: o149 P :: o150 P :: o151 P :: o152 P :: o153 P :: o154 P :: o155 P ::
  o156 P :: o157 P :: o158 P :: o159 P :: o160 P :: o161 P :: o162 P :: o163 P :: o164 P :: o165 P :: o166 P :: o167 P ::
  o168 P :: o169 P :: o170 P :: o171 P :: o172 P :: o173 P :: o174 P :: o175 P :: o176 P :: o177 P :: o178 P :: o179 P ::
  o180 P :: o181 P :: o182 P :: o183 P :: o184 P :: o185 P :: o186 P :: o187 P :: o188 P :: o189 P :: o190 P :: o191 P ::
  o192 P :: o193 P :: o194 P :: o195 P :: o196 P :: o197 P :: o198 P :: o199 P :: o200 P :: o201 P :: o202 P :: o203 P ::
  o204 P :: o205 P :: o206 P :: o207 P :: o208 P :: o209 P :: o210 P :: o211 P :: o212 P :: o213 P :: o214 P :: o215 P ::
  o216 P :: o217 P :: o218 P :: o219 P :: o220 P :: o221 P :: o222 P :: o223 P :: o224 P :: o225 P :: o226 P :: o227 P ::
  o228 P :: o229 P :: o230 P :: o231 P :: o232 P :: o233 P :: o234 P :: o235 P :: o236 P :: o237 P :: o238 P :: o239 P ::
  o240 P :: o241 P :: o242 P :: o243 P :: o244 P :: o245 P :: o246 P :: o247 P :: o248 P :: o249 P :: o250 P :: o251 P ::
  o252 P :: o253 P :: o254 P :: o255 P :: o256 P :: o257 P :: o258 P :: o259 P :: o260 P :: o261 P :: o262 P :: o263 P ::
  o264 P :: o265 P :: o266 P :: o267 P :: o268 P :: o269 P :: o270 P :: o271 P :: o272 P :: o273 P :: o274 P :: o275 P ::
  o276 P :: o277 P :: o278 P :: o279 P :: o280 P :: o281 P :: o282 P :: o283 P :: o284 P :: o285 P :: o286 P :: o287 P ::
  o288 P :: o289 P :: o290 P :: o291 P :: o292 P :: o293 P :: o294 P :: o295 P :: o296 P :: o297 P :: o298 P :: o299 P ::
  o300 P :: o301 P :: o302 P :: o303 P :: o304 P :: o305 P :: o306 P :: o307 P :: o308 P :: o309 P :: o310 P :: o311 P ::
  o312 P :: o313 P :: o314 P :: o315 P :: o316 P :: o317 P :: o318 P :: o319 P :: o320 P :: o321 P :: o322 P :: o323 P ::
  o324 P :: o325 P :: o326 P :: o327 P :: o328 P :: o329 P :: o330 P :: o331 P :: o332 P :: o333 P :: o334 P :: o335 P ::
  o336 P :: o337 P :: o338 P :: o339 P :: o340 P :: o341 P :: o342 P :: o343 P :: o344 P :: o345 P :: o346 P :: o347 P ::
  o348 P :: o349 P :: o350 P :: o351 P :: o352 P :: o353 P :: o354 P :: o355 P :: o356 P :: o357 P :: o358 P :: o359 P ::
  o360 P :: o361 P :: o362 P :: o363 P :: o364 P :: o365 P :: o366 P :: o367 P :: o368 P :: o369 P :: o370 P :: o371 P ::
  o372 P :: o373 P :: o374 P :: o375 P :: o376 P :: o377 P :: o378 P :: o379 P :: o380 P :: o381 P :: o382 P :: o383 P ::
  o384 P :: o385 P :: o386 P :: o387 P :: o388 P :: o389 P :: o390 P :: o391 P :: o392 P :: o393 P :: o394 P :: o395 P ::
  o396 P :: o397 P :: o398 P :: o399 P :: o400 P :: o401 P :: o402 P :: o403 P :: o404 P :: o405 P :: o406 P :: o407 P ::
  o408 P :: o409 P :: o410 P :: o411 P :: o412 P :: o413 P :: o414 P :: o415 P :: o416 P :: o417 P :: o418 P :: o419 P ::
  o420 P :: o421 P :: o422 P :: o423 P :: o424 P :: o425 P :: o426 P :: o427 P :: o428 P :: o429 P :: o430 P :: o431 P ::
  o432 P :: o433 P :: o434 P :: o435 P :: o436 P :: o437 P :: o438 P :: o439 P :: o440 P :: o441 P :: o442 P :: o443 P ::
  o444 P :: o445 P :: o446 P :: o447 P :: o448 P :: o449 P :: o450 P :: o451 P :: o452 P :: o453 P :: o454 P :: o455 P ::
  o456 P :: o457 P :: o458 P :: o459 P :: o460 P :: o461 P :: o462 P :: o463 P :: o464 P :: o465 P :: o466 P :: o467 P ::
  o468 P :: o469 P :: o470 P :: o471 P :: o472 P :: o473 P :: o474 P :: o475 P :: o476 P :: o477 P :: o478 P :: o479 P ::
  o480 P :: o481 P :: o482 P :: o483 P :: o484 P :: o485 P :: o486 P :: o487 P :: o488 P :: o489 P :: o490 P :: o491 P :: []⟩, {}⟩
noncomputable def K0 : Params → Frag := fun P => (((nat_lit 2), o2 P) :: ((nat_lit 3), o3 P) :: ((nat_lit 15), o15 P) :: ((nat_lit 17), o17 P) :: ((nat_lit 18), o18 P) :: ((nat_lit 20), o20 P) :: ((nat_lit 21), o21 P) :: ((nat_lit 22), o22 P) :: ((nat_lit 29), o29 P) :: ((nat_lit 31), o31 P) :: ((nat_lit 32), o32 P) :: ((nat_lit 34), o34 P) ::
  ((nat_lit 35), o35 P) :: ((nat_lit 36), o36 P) :: ((nat_lit 37), o37 P) :: ((nat_lit 38), o38 P) :: ((nat_lit 39), o39 P) :: ((nat_lit 42), o42 P) :: ((nat_lit 49), o49 P) :: ((nat_lit 50), o50 P) :: ((nat_lit 51), o51 P) :: ((nat_lit 61), o61 P) :: ((nat_lit 63), o63 P) :: ((nat_lit 64), o64 P) ::
  ((nat_lit 66), o66 P) :: ((nat_lit 67), o67 P) :: ((nat_lit 68), o68 P) :: ((nat_lit 69), o69 P) :: ((nat_lit 70), o70 P) :: ((nat_lit 71), o71 P) :: ((nat_lit 72), o72 P) :: ((nat_lit 75), o75 P) :: ((nat_lit 77), o77 P) :: ((nat_lit 78), o78 P) :: ((nat_lit 80), o80 P) :: ((nat_lit 81), o81 P) ::
  ((nat_lit 89), o89 P) :: ((nat_lit 91), o91 P) :: ((nat_lit 92), o92 P) :: ((nat_lit 94), o94 P) :: ((nat_lit 95), o95 P) :: ((nat_lit 96), o96 P) :: ((nat_lit 98), o98 P) :: ((nat_lit 99), o99 P) :: ((nat_lit 101), o101 P) :: ((nat_lit 102), o102 P) :: ((nat_lit 103), o103 P) :: ((nat_lit 105), o105 P) ::
  ((nat_lit 106), o106 P) :: ((nat_lit 108), o108 P) :: ((nat_lit 109), o109 P) :: ((nat_lit 110), o110 P) :: ((nat_lit 111), o111 P) :: ((nat_lit 112), o112 P) :: ((nat_lit 113), o113 P) :: ((nat_lit 114), o114 P) :: ((nat_lit 124), o124 P) :: ((nat_lit 126), o126 P) :: ((nat_lit 127), o127 P) :: ((nat_lit 129), o129 P) ::
  ((nat_lit 130), o130 P) :: ((nat_lit 131), o131 P) :: ((nat_lit 132), o132 P) :: ((nat_lit 133), o133 P) :: ((nat_lit 134), o134 P) :: ((nat_lit 135), o135 P) :: ((nat_lit 145), o145 P) :: ((nat_lit 147), o147 P) :: ((nat_lit 148), o148 P) :: ((nat_lit 150), o150 P) :: ((nat_lit 151), o151 P) :: ((nat_lit 152), o152 P) ::
  ((nat_lit 153), o153 P) :: ((nat_lit 154), o154 P) :: ((nat_lit 155), o155 P) :: ((nat_lit 156), o156 P) :: ((nat_lit 159), o159 P) :: ((nat_lit 161), o161 P) :: ((nat_lit 162), o162 P) :: ((nat_lit 164), o164 P) :: ((nat_lit 165), o165 P) :: ((nat_lit 166), o166 P) :: ((nat_lit 168), o168 P) :: ((nat_lit 169), o169 P) ::
  ((nat_lit 171), o171 P) :: ((nat_lit 172), o172 P) :: ((nat_lit 173), o173 P) :: ((nat_lit 175), o175 P) :: ((nat_lit 176), o176 P) :: ((nat_lit 178), o178 P) :: ((nat_lit 179), o179 P) :: ((nat_lit 187), o187 P) :: ((nat_lit 189), o189 P) :: ((nat_lit 190), o190 P) :: ((nat_lit 192), o192 P) :: ((nat_lit 193), o193 P) ::
  ((nat_lit 194), o194 P) :: ((nat_lit 195), o195 P) :: ((nat_lit 196), o196 P) :: ((nat_lit 197), o197 P) :: ((nat_lit 198), o198 P) :: ((nat_lit 201), o201 P) :: ((nat_lit 203), o203 P) :: ((nat_lit 204), o204 P) :: ((nat_lit 206), o206 P) :: ((nat_lit 207), o207 P) :: ((nat_lit 208), o208 P) :: ((nat_lit 210), o210 P) ::
  ((nat_lit 211), o211 P) :: ((nat_lit 213), o213 P) :: ((nat_lit 214), o214 P) :: ((nat_lit 222), o222 P) :: ((nat_lit 224), o224 P) :: ((nat_lit 225), o225 P) :: ((nat_lit 227), o227 P) :: ((nat_lit 228), o228 P) :: ((nat_lit 229), o229 P) :: ((nat_lit 231), o231 P) :: ((nat_lit 232), o232 P) :: ((nat_lit 234), o234 P) ::
  ((nat_lit 235), o235 P) :: ((nat_lit 236), o236 P) :: ((nat_lit 238), o238 P) :: ((nat_lit 239), o239 P) :: ((nat_lit 241), o241 P) :: ((nat_lit 242), o242 P) :: ((nat_lit 243), o243 P) :: ((nat_lit 246), o246 P) :: ((nat_lit 247), o247 P) :: ((nat_lit 248), o248 P) :: ((nat_lit 250), o250 P) :: ((nat_lit 251), o251 P) ::
  ((nat_lit 253), o253 P) :: ((nat_lit 254), o254 P) :: ((nat_lit 255), o255 P) :: ((nat_lit 257), o257 P) :: ((nat_lit 258), o258 P) :: ((nat_lit 260), o260 P) :: ((nat_lit 261), o261 P) :: ((nat_lit 262), o262 P) :: ((nat_lit 264), o264 P) :: ((nat_lit 265), o265 P) :: ((nat_lit 267), o267 P) :: ((nat_lit 268), o268 P) ::
  ((nat_lit 269), o269 P) :: ((nat_lit 271), o271 P) :: ((nat_lit 272), o272 P) :: ((nat_lit 274), o274 P) :: ((nat_lit 275), o275 P) :: ((nat_lit 276), o276 P) :: ((nat_lit 278), o278 P) :: ((nat_lit 279), o279 P) :: ((nat_lit 281), o281 P) :: ((nat_lit 282), o282 P) :: ((nat_lit 283), o283 P) :: ((nat_lit 285), o285 P) ::
  ((nat_lit 286), o286 P) :: ((nat_lit 288), o288 P) :: ((nat_lit 289), o289 P) :: ((nat_lit 290), o290 P) :: ((nat_lit 292), o292 P) :: ((nat_lit 293), o293 P) :: ((nat_lit 295), o295 P) :: ((nat_lit 296), o296 P) :: ((nat_lit 297), o297 P) :: ((nat_lit 299), o299 P) :: ((nat_lit 300), o300 P) :: ((nat_lit 302), o302 P) ::
  ((nat_lit 303), o303 P) :: ((nat_lit 304), o304 P) :: ((nat_lit 306), o306 P) :: ((nat_lit 307), o307 P) :: ((nat_lit 309), o309 P) :: ((nat_lit 310), o310 P) :: ((nat_lit 311), o311 P) :: ((nat_lit 313), o313 P) :: ((nat_lit 314), o314 P) :: ((nat_lit 316), o316 P) :: ((nat_lit 317), o317 P) :: ((nat_lit 318), o318 P) ::
  ((nat_lit 320), o320 P) :: ((nat_lit 321), o321 P) :: ((nat_lit 323), o323 P) :: ((nat_lit 324), o324 P) :: ((nat_lit 325), o325 P) :: ((nat_lit 327), o327 P) :: ((nat_lit 328), o328 P) :: ((nat_lit 330), o330 P) :: ((nat_lit 331), o331 P) :: ((nat_lit 332), o332 P) :: ((nat_lit 334), o334 P) :: ((nat_lit 335), o335 P) ::
  ((nat_lit 337), o337 P) :: ((nat_lit 338), o338 P) :: ((nat_lit 339), o339 P) :: ((nat_lit 341), o341 P) :: ((nat_lit 342), o342 P) :: ((nat_lit 344), o344 P) :: ((nat_lit 345), o345 P) :: ((nat_lit 346), o346 P) :: ((nat_lit 348), o348 P) :: ((nat_lit 349), o349 P) :: ((nat_lit 351), o351 P) :: ((nat_lit 352), o352 P) ::
  ((nat_lit 353), o353 P) :: ((nat_lit 355), o355 P) :: ((nat_lit 356), o356 P) :: ((nat_lit 358), o358 P) :: ((nat_lit 359), o359 P) :: ((nat_lit 360), o360 P) :: ((nat_lit 362), o362 P) :: ((nat_lit 363), o363 P) :: ((nat_lit 365), o365 P) :: ((nat_lit 366), o366 P) :: ((nat_lit 367), o367 P) :: ((nat_lit 369), o369 P) ::
  ((nat_lit 370), o370 P) :: ((nat_lit 372), o372 P) :: ((nat_lit 373), o373 P) :: ((nat_lit 374), o374 P) :: ((nat_lit 376), o376 P) :: ((nat_lit 377), o377 P) :: ((nat_lit 379), o379 P) :: ((nat_lit 380), o380 P) :: ((nat_lit 381), o381 P) :: ((nat_lit 383), o383 P) :: ((nat_lit 384), o384 P) :: ((nat_lit 386), o386 P) ::
  ((nat_lit 387), o387 P) :: ((nat_lit 388), o388 P) :: ((nat_lit 390), o390 P) :: ((nat_lit 391), o391 P) :: ((nat_lit 393), o393 P) :: ((nat_lit 394), o394 P) :: ((nat_lit 395), o395 P) :: ((nat_lit 397), o397 P) :: ((nat_lit 398), o398 P) :: ((nat_lit 400), o400 P) :: ((nat_lit 401), o401 P) :: ((nat_lit 402), o402 P) ::
  ((nat_lit 404), o404 P) :: ((nat_lit 405), o405 P) :: ((nat_lit 407), o407 P) :: ((nat_lit 408), o408 P) :: ((nat_lit 409), o409 P) :: ((nat_lit 411), o411 P) :: ((nat_lit 412), o412 P) :: ((nat_lit 414), o414 P) :: ((nat_lit 415), o415 P) :: ((nat_lit 416), o416 P) :: ((nat_lit 418), o418 P) :: ((nat_lit 419), o419 P) ::
  ((nat_lit 421), o421 P) :: ((nat_lit 422), o422 P) :: ((nat_lit 423), o423 P) :: ((nat_lit 425), o425 P) :: ((nat_lit 426), o426 P) :: ((nat_lit 428), o428 P) :: ((nat_lit 429), o429 P) :: ((nat_lit 430), o430 P) :: ((nat_lit 432), o432 P) :: ((nat_lit 433), o433 P) :: ((nat_lit 435), o435 P) :: ((nat_lit 436), o436 P) ::
  ((nat_lit 437), o437 P) :: ((nat_lit 438), o438 P) :: ((nat_lit 439), o439 P) :: ((nat_lit 440), o440 P) :: ((nat_lit 441), o441 P) :: ((nat_lit 444), o444 P) :: ((nat_lit 446), o446 P) :: ((nat_lit 447), o447 P) :: ((nat_lit 449), o449 P) :: ((nat_lit 450), o450 P) :: ((nat_lit 451), o451 P) :: ((nat_lit 453), o453 P) ::
  ((nat_lit 454), o454 P) :: ((nat_lit 456), o456 P) :: ((nat_lit 457), o457 P) :: ((nat_lit 458), o458 P) :: ((nat_lit 461), o461 P) :: ((nat_lit 462), o462 P) :: ((nat_lit 463), o463 P) :: ((nat_lit 466), o466 P) :: ((nat_lit 467), o467 P) :: ((nat_lit 468), o468 P) :: ((nat_lit 470), o470 P) :: ((nat_lit 471), o471 P) ::
  ((nat_lit 473), o473 P) :: ((nat_lit 474), o474 P) :: ((nat_lit 475), o475 P) :: ((nat_lit 478), o478 P) :: ((nat_lit 479), o479 P) :: ((nat_lit 480), o480 P) :: ((nat_lit 482), o482 P) :: ((nat_lit 483), o483 P) :: ((nat_lit 485), o485 P) :: ((nat_lit 486), o486 P) :: ((nat_lit 487), o487 P) :: ((nat_lit 490), o490 P) ::
  ((nat_lit 491), o491 P) :: [] : List (Nat × Obj))
noncomputable def as39 : List Nat := (nat_lit 2) :: (nat_lit 3) :: (nat_lit 15) :: (nat_lit 17) :: (nat_lit 18) :: (nat_lit 20) :: (nat_lit 21) :: (nat_lit 22) :: (nat_lit 29) :: (nat_lit 31) :: (nat_lit 32) :: (nat_lit 34) :: (nat_lit 35) :: (nat_lit 36) :: (nat_lit 37) :: (nat_lit 38) :: (nat_lit 39) :: (nat_lit 42) :: (nat_lit 49) :: (nat_lit 50) :: (nat_lit 51) :: (nat_lit 61) :: (nat_lit 63) :: (nat_lit 64) ::
  (nat_lit 66) :: (nat_lit 67) :: (nat_lit 68) :: (nat_lit 69) :: (nat_lit 70) :: (nat_lit 71) :: (nat_lit 72) :: (nat_lit 75) :: (nat_lit 77) :: (nat_lit 78) :: (nat_lit 80) :: (nat_lit 81) :: (nat_lit 89) :: (nat_lit 91) :: (nat_lit 92) :: (nat_lit 94) :: (nat_lit 95) :: (nat_lit 96) :: (nat_lit 98) :: (nat_lit 99) :: (nat_lit 101) :: (nat_lit 102) :: (nat_lit 103) :: (nat_lit 105) ::
  (nat_lit 106) :: (nat_lit 108) :: (nat_lit 109) :: (nat_lit 110) :: (nat_lit 111) :: (nat_lit 112) :: (nat_lit 113) :: (nat_lit 114) :: (nat_lit 124) :: (nat_lit 126) :: (nat_lit 127) :: (nat_lit 129) :: (nat_lit 130) :: (nat_lit 131) :: (nat_lit 132) :: (nat_lit 133) :: (nat_lit 134) :: (nat_lit 135) :: (nat_lit 145) :: (nat_lit 147) :: (nat_lit 148) :: (nat_lit 150) :: (nat_lit 151) :: (nat_lit 152) ::
  (nat_lit 153) :: (nat_lit 154) :: (nat_lit 155) :: (nat_lit 156) :: (nat_lit 159) :: (nat_lit 161) :: (nat_lit 162) :: (nat_lit 164) :: (nat_lit 165) :: (nat_lit 166) :: (nat_lit 168) :: (nat_lit 169) :: (nat_lit 171) :: (nat_lit 172) :: (nat_lit 173) :: (nat_lit 175) :: (nat_lit 176) :: (nat_lit 178) :: (nat_lit 179) :: (nat_lit 187) :: (nat_lit 189) :: (nat_lit 190) :: (nat_lit 192) :: (nat_lit 193) ::
  (nat_lit 194) :: (nat_lit 195) :: (nat_lit 196) :: (nat_lit 197) :: (nat_lit 198) :: (nat_lit 201) :: (nat_lit 203) :: (nat_lit 204) :: (nat_lit 206) :: (nat_lit 207) :: (nat_lit 208) :: (nat_lit 210) :: (nat_lit 211) :: (nat_lit 213) :: (nat_lit 214) :: (nat_lit 222) :: (nat_lit 224) :: (nat_lit 225) :: (nat_lit 227) :: (nat_lit 228) :: (nat_lit 229) :: (nat_lit 231) :: (nat_lit 232) :: (nat_lit 234) ::
  (nat_lit 235) :: (nat_lit 236) :: (nat_lit 238) :: (nat_lit 239) :: (nat_lit 241) :: (nat_lit 242) :: (nat_lit 243) :: (nat_lit 246) :: (nat_lit 247) :: (nat_lit 248) :: (nat_lit 250) :: (nat_lit 251) :: (nat_lit 253) :: (nat_lit 254) :: (nat_lit 255) :: (nat_lit 257) :: (nat_lit 258) :: (nat_lit 260) :: (nat_lit 261) :: (nat_lit 262) :: (nat_lit 264) :: (nat_lit 265) :: (nat_lit 267) :: (nat_lit 268) ::
  (nat_lit 269) :: (nat_lit 271) :: (nat_lit 272) :: (nat_lit 274) :: (nat_lit 275) :: (nat_lit 276) :: (nat_lit 278) :: (nat_lit 279) :: (nat_lit 281) :: (nat_lit 282) :: (nat_lit 283) :: (nat_lit 285) :: (nat_lit 286) :: (nat_lit 288) :: (nat_lit 289) :: (nat_lit 290) :: (nat_lit 292) :: (nat_lit 293) :: (nat_lit 295) :: (nat_lit 296) :: (nat_lit 297) :: (nat_lit 299) :: (nat_lit 300) :: (nat_lit 302) ::
  (nat_lit 303) :: (nat_lit 304) :: (nat_lit 306) :: (nat_lit 307) :: (nat_lit 309) :: (nat_lit 310) :: (nat_lit 311) :: (nat_lit 313) :: (nat_lit 314) :: (nat_lit 316) :: (nat_lit 317) :: (nat_lit 318) :: (nat_lit 320) :: (nat_lit 321) :: (nat_lit 323) :: (nat_lit 324) :: (nat_lit 325) :: (nat_lit 327) :: (nat_lit 328) :: (nat_lit 330) :: (nat_lit 331) :: (nat_lit 332) :: (nat_lit 334) :: (nat_lit 335) ::
  (nat_lit 337) :: (nat_lit 338) :: (nat_lit 339) :: (nat_lit 341) :: (nat_lit 342) :: (nat_lit 344) :: (nat_lit 345) :: (nat_lit 346) :: (nat_lit 348) :: (nat_lit 349) :: (nat_lit 351) :: (nat_lit 352) :: (nat_lit 353) :: (nat_lit 355) :: (nat_lit 356) :: (nat_lit 358) :: (nat_lit 359) :: (nat_lit 360) :: (nat_lit 362) :: (nat_lit 363) :: (nat_lit 365) :: (nat_lit 366) :: (nat_lit 367) :: (nat_lit 369) ::
  (nat_lit 370) :: (nat_lit 372) :: (nat_lit 373) :: (nat_lit 374) :: (nat_lit 376) :: (nat_lit 377) :: (nat_lit 379) :: (nat_lit 380) :: (nat_lit 381) :: (nat_lit 383) :: (nat_lit 384) :: (nat_lit 386) :: (nat_lit 387) :: (nat_lit 388) :: (nat_lit 390) :: (nat_lit 391) :: (nat_lit 393) :: (nat_lit 394) :: (nat_lit 395) :: (nat_lit 397) :: (nat_lit 398) :: (nat_lit 400) :: (nat_lit 401) :: (nat_lit 402) ::
  (nat_lit 404) :: (nat_lit 405) :: (nat_lit 407) :: (nat_lit 408) :: (nat_lit 409) :: (nat_lit 411) :: (nat_lit 412) :: (nat_lit 414) :: (nat_lit 415) :: (nat_lit 416) :: (nat_lit 418) :: (nat_lit 419) :: (nat_lit 421) :: (nat_lit 422) :: (nat_lit 423) :: (nat_lit 425) :: (nat_lit 426) :: (nat_lit 428) :: (nat_lit 429) :: (nat_lit 430) :: (nat_lit 432) :: (nat_lit 433) :: (nat_lit 435) :: (nat_lit 436) ::
  (nat_lit 437) :: (nat_lit 438) :: (nat_lit 439) :: (nat_lit 440) :: (nat_lit 441) :: (nat_lit 444) :: (nat_lit 446) :: (nat_lit 447) :: (nat_lit 449) :: (nat_lit 450) :: (nat_lit 451) :: (nat_lit 453) :: (nat_lit 454) :: (nat_lit 456) :: (nat_lit 457) :: (nat_lit 458) :: (nat_lit 461) :: (nat_lit 462) :: (nat_lit 463) :: (nat_lit 466) :: (nat_lit 467) :: (nat_lit 468) :: (nat_lit 470) :: (nat_lit 471) ::
  (nat_lit 473) :: (nat_lit 474) :: (nat_lit 475) :: (nat_lit 478) :: (nat_lit 479) :: (nat_lit 480) :: (nat_lit 482) :: (nat_lit 483) :: (nat_lit 485) :: (nat_lit 486) :: (nat_lit 487) :: (nat_lit 490) :: (nat_lit 491) :: []
noncomputable def heap_39 : Params → Frag := by
  refine (?f : (K : Params → Frag) → K = K0 → Params → Frag) ?K ?h
  case f => exact fun K _ => K
  case h =>
    delta K0 o2 o3 o15 o17 o18 o20 o21 o22 o29 o31 o32 o34 o35 o36 o37 o38 o39 o42 o49 o50 o51 o61 o63 o64 o66 o67 o68 o69 o70 o71 o72 o75 o77 o78 o80 o81 o89 o91 o92 o94 o95 o96 o98 o99 o101 o102 o103 o105 o106 o108 o109 o110 o111 o112 o113 o114 o124 o126 o127 o129 o130 o131 o132 o133 o134 o135 o145 o147 o148 o150 o151 o152 o153 o154 o155 o156 o159 o161 o162 o164 o165 o166 o168 o169 o171 o172 o173 o175 o176 o178 o179 o187 o189 o190 o192 o193 o194 o195 o196 o197 o198 o201 o203 o204 o206 o207 o208 o210 o211 o213 o214 o222 o224 o225 o227 o228 o229 o231 o232 o234 o235 o236 o238 o239 o241 o242 o243 o246 o247 o248 o250 o251 o253 o254 o255 o257 o258 o260 o261 o262 o264 o265 o267 o268 o269 o271 o272 o274 o275 o276 o278 o279 o281 o282 o283 o285 o286 o288 o289 o290 o292 o293 o295 o296 o297 o299 o300 o302 o303 o304 o306 o307 o309 o310 o311 o313 o314 o316 o317 o318 o320 o321 o323 o324 o325 o327 o328 o330 o331 o332 o334 o335 o337 o338 o339 o341 o342 o344 o345 o346 o348 o349 o351 o352 o353 o355 o356 o358 o359 o360 o362 o363 o365 o366 o367 o369 o370 o372 o373 o374 o376 o377 o379 o380 o381 o383 o384 o386 o387 o388 o390 o391 o393 o394 o395 o397 o398 o400 o401 o402 o404 o405 o407 o408 o409 o411 o412 o414 o415 o416 o418 o419 o421 o422 o423 o425 o426 o428 o429 o430 o432 o433 o435 o436 o437 o438 o439 o440 o441 o444 o446 o447 o449 o450 o451 o453 o454 o456 o457 o458 o461 o462 o463 o466 o467 o468 o470 o471 o473 o474 o475 o478 o479 o480 o482 o483 o485 o486 o487 o490 o491
    delta sA_0_0_false sB_0_0_false sC_0_0_false sA_2_0_true sB_2_0_true sC_2_0_true sA_9_0_true sB_9_0_true sC_9_0_true sA_10_0_false sB_10_0_false sC_10_0_false sA_14_0_true sB_14_0_true sC_14_0_true sA_14_1_true sB_14_1_true sC_14_1_true sA_14_2_true sB_14_2_true sC_14_2_true sA_17_0_true sB_17_0_true sC_17_0_true sA_19_0_true sB_19_0_true sC_19_0_true sA_20_0_false sB_20_0_false sC_20_0_false sA_21_0_false sB_21_0_false sC_21_0_false sA_22_0_false sB_22_0_false sC_22_0_false sA_24_0_true sB_24_0_true sC_24_0_true sA_25_0_false sB_25_0_false sC_25_0_false sA_26_0_false sB_26_0_false sC_26_0_false sA_28_0_true sB_28_0_true sC_28_0_true sA_28_1_true sB_28_1_true sC_28_1_true sA_28_2_true sB_28_2_true sC_28_2_true sA_28_3_true sB_28_3_true sC_28_3_true sA_28_4_true sB_28_4_true sC_28_4_true sA_28_5_true sB_28_5_true sC_28_5_true sA_28_6_true sB_28_6_true sC_28_6_true sA_28_7_true sB_28_7_true sC_28_7_true sA_28_8_true sB_28_8_true sC_28_8_true sA_28_9_true sB_28_9_true sC_28_9_true sA_28_10_true sB_28_10_true sC_28_10_true sA_28_11_true sB_28_11_true sC_28_11_true sA_28_12_true sB_28_12_true sC_28_12_true sA_28_13_true sB_28_13_true sC_28_13_true sA_28_14_true sB_28_14_true sC_28_14_true sA_28_15_true sB_28_15_true sC_28_15_true sA_28_16_true sB_28_16_true sC_28_16_true sA_28_17_true sB_28_17_true sC_28_17_true sA_28_18_true sB_28_18_true sC_28_18_true sA_28_19_true sB_28_19_true sC_28_19_true sA_28_20_true sB_28_20_true sC_28_20_true sA_28_21_true sB_28_21_true sC_28_21_true sA_28_22_true sB_28_22_true sC_28_22_true sA_28_23_true sB_28_23_true sC_28_23_true sA_28_24_true sB_28_24_true sC_28_24_true sA_28_25_true sB_28_25_true sC_28_25_true sA_28_26_true sB_28_26_true sC_28_26_true sA_28_27_true sB_28_27_true sC_28_27_true sA_28_28_true sB_28_28_true sC_28_28_true sA_28_29_true sB_28_29_true sC_28_29_true sA_28_30_true sB_28_30_true sC_28_30_true sA_30_0_false sB_30_0_false sC_30_0_false sA_31_0_false sB_31_0_false sC_31_0_false sA_32_0_false sB_32_0_false sC_32_0_false sA_33_0_false sB_33_0_false sC_33_0_false sA_34_0_false sB_34_0_false sC_34_0_false sA_35_0_false sB_35_0_false sC_35_0_false sA_36_0_false sB_36_0_false sC_36_0_false sA_37_0_false sB_37_0_false sC_37_0_false
    exact rfl
end hd
-- PART 00b: the head: the top's run, one piece
namespace hd
noncomputable abbrev pq : Program := PySem.Challenge.pw_sa0313_01
noncomputable def env : Env := { scope := PySem.Challenge.pw_sa0313_01.main.scope, locals := mainNs, globals := mainNs, cells := [], code := .ref 13, frame := some 14 }
noncomputable abbrev bod : List Stmt := behindTheImports PySem.Challenge.pw_sa0313_01
noncomputable abbrev cE : Code := Code.body bod env
abbrev p0 : Pos := { line := 0, col := 0, endLine := 0, endCol := 0 }
abbrev pf : Pos := { line := 309, col := 0, endLine := 330, endCol := 75 }
abbrev Bf : List Frame := [topFrame p0]
abbrev ann : Option Value := some (.ref 6)
abbrev g0 : Array GenState := Array.mk []
abbrev dr : Drawn := {}
set_option maxHeartbeats 0 in
theorem run_pre : ∀ w : World, (fun os => topGo treeTable PySem.Challenge.pw_sa0313_01 w 11 ann 12 ⟨boot_heap w.params, g0, boot_drawn, boot_toks, os⟩ (topStub PySem.Challenge.pw_sa0313_01)) = fun os => some (⟨heapA w.params, g0, dr, 187, os⟩, ⟨denote treeTable cE, cE, p0, Bf⟩) := by
  intro w
  rw [PySem.W.Fast.te15667345088766844465, PySem.W.Fast.te14364793385576792824, PySem.W.Fast.te11892475500146522536]
  kernel_rfl
set_option maxHeartbeats 0 in
theorem run_block : ∀ w : World, (fun os => segRun treeTable PySem.Challenge.pw_sa0313_01 w 11 ann 1 1 ⟨heapA w.params, g0, dr, 187, os⟩ (blockOf bod env cE p0 Bf)) = fun os => some (Flow.next, SharedT.abs ⟨treeB w.params, 15, {}, g0, dr, 187, os⟩, cE, p0) := by
  intro w
  rw [PySem.W.Fast.te14374325043358763698, PySem.W.Fast.te14364793385576792824]
  kernel_rfl
set_option maxHeartbeats 0 in
theorem run_body : ∀ w : World, (fun os => segRunT treeTable PySem.Challenge.pw_sa0313_01 w 11 ann 1 3462 ⟨treeB w.params, 15, {}, g0, dr, 187, os⟩ (piecesOf bod env cE p0 Bf)) = fun os => some (Flow.next, (⟨treeF w.params, 492, {}, g0, dr, 881, os⟩ : SharedT), cE, pf) := by
  intro w
  rw [PySem.W.Fast.te10110043849684766642, PySem.W.Fast.te14364793385576792824]
  kernel_rfl
set_option maxHeartbeats 0 in
theorem run_fin : ∀ w : World, (fun os => topRun treeTable PySem.Challenge.pw_sa0313_01 w 11 ann 2 (SharedT.abs ⟨treeF w.params, 492, {}, g0, dr, 881, os⟩) ⟨doneF .next, cE, pf, Bf⟩) = fun os => some ⟨heapF w.params, g0, dr, 881, os⟩ := by
  intro w
  rw [PySem.W.Fast.te14082659384304107361, PySem.W.Fast.te14364793385576792824]
  kernel_rfl
theorem run_all (w : World) (os : OsState) : topRun treeTable PySem.Challenge.pw_sa0313_01 w 11 ann (12 + (1 + (3462 + 2))) ⟨boot_heap w.params, g0, boot_drawn, boot_toks, os⟩ (topStub PySem.Challenge.pw_sa0313_01) = some ⟨heapF w.params, g0, dr, 881, os⟩ := by
  have h1 := congrFun (run_pre w) os
  have h2 := congrFun (run_block w) os
  have h3 := segRun_of (congrFun (run_body w) os)
  have h4 := congrFun (run_fin w) os
  refine go_top h1 (piece_block h2 ?_)
  have h5 := piece_app (l := bod) (rest := []) h3 (piece_nil h4)
  rw [List.append_nil] at h5
  exact h5
end hd
-- PART 00c: the head: what the top leaves is looked at; the head as a theorem
namespace hd
noncomputable def view_39 : Program := PySem.W.view PySem.Challenge.pw_sa0313_01 [0, 2, 3, 4, 5, 6, 8, 9, 10, 12, 13, 14, 16, 17, 19, 20, 21, 22, 24, 25, 26, 28, 30, 31, 32, 33, 34, 35, 36, 37]
abbrev loose : List Str := [Str.ofString "LONG", Str.ofString "WORD", Str.ofString "ADDRESSES", Str.ofString "GWEI", Str.ofString "LEAST_ADDRESS"]
abbrev lv : List (Str × WData) := [(Str.ofString "LONG", .int 18446744073709551616), (Str.ofString "WORD", .int 115792089237316195423570985008687907853269984665640564039457584007913129639936), (Str.ofString "ADDRESSES", .int 1461501637330902918203684832716283019655932542976), (Str.ofString "GWEI", .int 1000000000), (Str.ofString "LEAST_ADDRESS", .int 605153021707326989568713251046585937826284568576)]
noncomputable abbrev rW : RowW := PySem.Challenge.rw_sa0313_01.row.toRowW
noncomputable abbrev Xt : Shared → Bool := fun s => xlAt view_39 lv s && recOk (RowW.records rW) s
noncomputable abbrev hook : Hook := kHook heap_39 as39 (fun _ => by kernel_rfl)
noncomputable abbrev sf (w : World) (os : OsState) : Shared := ⟨heapF w.params, g0, dr, 881, os⟩
set_option maxHeartbeats 0 in
theorem look_1 : ∀ w : World, (fun os => (staticsOk (importedModules PySem.Challenge.pw_sa0313_01.main.body) (boot_heap w.params) (heapF w.params) && namesBound PySem.Challenge.pw_sa0313_01 (heapF w.params) && gensDone (sf w os) && laidKept (boot_heap w.params) (heapF w.params))) = fun _ => true := by
  intro w
  kernel_rfl
set_option maxHeartbeats 0 in
theorem look_2 : ∀ w : World, (fun os => openSeen view_39 loose (importedModules PySem.Challenge.pw_sa0313_01.main.body) Xt true (sf w os)) = fun _ => openGood view_39 loose := by
  intro w
  rw [PySem.W.Fast.te4187177175401517315]
  kernel_rfl
set_option maxHeartbeats 0 in
theorem look_3 : ∀ w : World, (fun os => hook.obs (sf w os)) = fun _ => hook.val w := by
  intro w
  kernel_rfl
theorem open_0 : ∀ w : World, (fencedOpening treeTable PySem.Challenge.pw_sa0313_01 w 7048).map (fun s => (s.heap, s.gens, s.drawn, s.toks)) = some (boot_heap w.params, Array.mk [], boot_drawn, boot_toks) :=
  boot_open (by kernel_rfl) (by decide +kernel) (fun s => by kernel_rfl)
theorem size_0 : ∀ w : World, ((boot_heap w.params).isNs mainGlobals && g0.size == 0, (boot_heap w.params).objs.size, (boot_heap w.params).nsMap mainGlobals "__annotations__") = (true, 11, ann) := by
  intro w
  kernel_rfl
theorem left : LeftO PySem.Challenge.pw_sa0313_01 view_39 loose Xt hook.obs hook.val 7048 :=
  LeftO.of_pieces (H₀ := boot_heap) (H₁ := heapF) open_0 size_0 run_all (by decide +kernel) (fun w => funext fun os => by
    have h1 := congrFun (look_1 w) os
    have h2 := congrFun (look_2 w) os
    have h3 := congrFun (look_3 w) os
    exact looks_pair h1 (looks_pair h2 h3))
end hd
-- PART 00d: the head as a theorem: the law holds if its walk does
set_option maxHeartbeats 0 in
theorem hd.said : PySem.Challenge.rw_sa0313_01.wellSaid = true := by
  rw [PySem.W.Fast.te9446332074065402090]
  kernel_rfl
noncomputable def hd.dLaw : DefRec := { name := Str.ofString "law", params := hd.sA_37_0_false, body := hd.sB_37_0_false, scope := hd.sC_37_0_false, pos := hd.pf }
set_option maxHeartbeats 0 in
theorem hd (walk : WalkO hd.view_39 hd.loose (XL hd.view_39 hd.lv) hd.hook.says hd.rW hd.dLaw [] (fun f vs => PySem.call f vs)) : PySem.Challenge.rw_sa0313_01.Holds := by
  refine holds_law hd.said fun said' => ?_
  refine holds_open (q := hd.view_39) (loose := hd.loose) (Xt := hd.Xt) (XP := XL hd.view_39 hd.lv) (Yf := hd.hook.obs) (Ya := hd.hook.val) (YP := hd.hook.says) (d := hd.dLaw) (kwd := []) (N := 7048) hd.left (Hook.of hd.hook) (Hook.keeps hd.hook) (fun s e => xl_of s (Bool.and_eq_true_iff.mp e).1) XL.keeps (by kernel_rfl) (by kernel_rfl) (by kernel_rfl) (fun s e => recFacts_of (Bool.and_eq_true_iff.mp e).2) (by rfl) said' (by decide +kernel) ⟨rfl, rfl, rfl, rfl, rfl, by decide +kernel⟩ ?hw walk
  case hw => w_witness2
-- PART 1: the base: names, the contract's form, the ledger's lemmas
noncomputable abbrev pw := PySem.Challenge.pw_sa0313_01
noncomputable abbrev lo : List Str := looseW Mine.hd.view_39 [Str.ofString "LONG", Str.ofString "WORD", Str.ofString "ADDRESSES", Str.ofString "GWEI", Str.ofString "LEAST_ADDRESS"]
abbrev Tp (mean : ExcName → Option Value) (mg mb : Str → Option Value) (h : Heap) : Prop := Top Mine.hd.view_39 lo mean mg mb h
noncomputable abbrev atp (hd : Option Value) (dp un : Nat) (gd : Option (List Code)) (cn : Str) (cs : Scope) (L a : Addr) (ccd : Value) (cl : List (Str × Addr)) (outer : List Env) : Around := { handled := hd, depth := dp, frames := some (envX cn cs L a ccd cl :: outer), guards := gd, units := un }
abbrev Led := List (Addr × Obj)
def keys (l : Led) : List Addr := l.map (·.1)

/-- a walk halts here -/
def Halt (p : Prop) : Prop := p
theorem halt_ {p : Prop} (h : Halt p) : p := h

/-- a def's contract: called with args over the ledger l it gives r over a ledger l' with Post r l' -/
def Con (w : World) (hd : Option Value) (f : Addr) (args : List Value) (D U : Nat) (l : Led) (Post : Value → Led → Prop) : Prop :=
  ∀ (mean : ExcName → Option Value) (mg mb : Str → Option Value) (dp un : Nat) (gd : Option (List Code)) (cn : Str) (cs : Scope) (a : Addr) (ccd : Value) (cl : List (Str × Addr)) (outer : List Env) (A₀ : Around) (base h₀ : Heap) (L : Addr)
    (m : Str → Option Value) (s : Shared) (Q E : Value → Shared → Prop),
    Below A₀ base outer h₀ → Fr h₀ L s.heap m → (Mine.hd.heap_39 w.params).In h₀ → News h₀ L s.heap l → Tp mean mg mb h₀ → cs.kind = .function → dp + D < 600 → un + U < 9000 →
    (∀ r h' tk' l', Fr h₀ L h' m → News h₀ L h' l' → Post r l' → Q r { s with heap := h', toks := tk' }) →
    wpAny (model pw w) (atp hd dp un gd cn cs L a ccd cl outer) (call (.ref f) args) Q E s

theorem News.sub {h₀ h : Heap} {L : Addr} {l l' : Led} (N : News h₀ L h l) (hs : ∀ p ∈ l', p ∈ l) : News h₀ L h l' := fun p hp => N p (hs p hp)

theorem Con.use {w : World} {hd : Option Value} {f : Addr} {args : List Value} {D U : Nat} {l : Led} {Post : Value → Led → Prop} (C : Con w hd f args D U l Post)
    {mean : ExcName → Option Value} {mg mb : Str → Option Value} {dp un : Nat} {gd : Option (List Code)} {cn : Str} {cs : Scope} {a : Addr} {ccd : Value} {cl : List (Str × Addr)} {outer : List Env} {A₀ : Around} {base h₀ : Heap} {L : Addr}
    {m : Str → Option Value} {s : Shared} {Q E : Value → Shared → Prop} {news : Led}
    (B : Below A₀ base outer h₀) (F : Fr h₀ L s.heap m) (X : (Mine.hd.heap_39 w.params).In h₀) (N : News h₀ L s.heap news) (hs : ∀ p ∈ l, p ∈ news) (T : Tp mean mg mb h₀) (hk : cs.kind = .function) (hdp : dp + D < 600) (hun : un + U < 9000)
    (ret : ∀ r h' tk' l', Fr h₀ L h' m → News h₀ L h' l' → Post r l' → Q r { s with heap := h', toks := tk' }) :
    wpAny (model pw w) (atp hd dp un gd cn cs L a ccd cl outer) (call (.ref f) args) Q E s :=
  by
  unfold Con at C
  exact C mean mg mb dp un gd cn cs a ccd cl outer A₀ base h₀ L m s Q E B F X (News.sub N hs) T hk hdp hun ret

theorem ne_of_allLt {d : Addr} {l : Led} (h : AllLt d l) : ∀ p ∈ l, p.1 ≠ d := by
  induction l with
  | nil => intro p hp; cases hp
  | cons q r ih =>
    intro p hp
    have h1 : q.1 < d := h.1
    rcases List.mem_cons.mp hp with e | hp
    · rw [e]; exact Nat.ne_of_lt h1
    · exact ih h.2 p hp

theorem rl : recursionLimit = 1000 := rfl
theorem weight_make (C : Addr) (vals : List Value) : (Code.builtin "type.__call__" ⟨.ref C :: vals, []⟩).weight = 1 := rfl
theorem cunits_make (C : Addr) (vals : List Value) : (Code.builtin "type.__call__" ⟨.ref C :: vals, []⟩).cUnits = 1 := rfl
/-- what is less than d, one by one ahead of a goal: the goal is told once -/
noncomputable def AllLtK (d : Nat) (G : Prop) : List (Addr × Obj) → Prop
  | [] => G
  | p :: r => @LT.lt Nat _ p.1 d → AllLtK d G r
theorem ltk_elim {d : Nat} {G : Prop} : ∀ {l : List (Addr × Obj)}, AllLt d l → AllLtK d G l → G
  | [], _, k => k
  | _ :: _, h, k => ltk_elim h.2 (k h.1)
theorem ltk_tail {d : Nat} {G : Prop} : ∀ {l : List (Addr × Obj)}, (AllLt d l → G) → AllLtK d G l
  | [], k => k trivial
  | _ :: _, k => fun h => ltk_tail fun q => k ⟨h, q⟩
/-- bounds by one that is known -/
theorem bq0 {x b n n' : Nat} (h : x + b < n) (e : Nat.ble n n' = true) : x < n' := Nat.lt_of_le_of_lt (Nat.le_add_right x b) (Nat.lt_of_lt_of_le h (Nat.le_of_ble_eq_true e))
theorem bq1 {x a b n n' : Nat} (h : x + b < n) (e : (Nat.ble a b && Nat.ble n n') = true) : x + a < n' := by
  obtain ⟨e1, e2⟩ := (Bool.and_eq_true _ _).mp e
  exact Nat.lt_of_le_of_lt (Nat.add_le_add_left (Nat.le_of_ble_eq_true e1) x) (Nat.lt_of_lt_of_le h (Nat.le_of_ble_eq_true e2))
theorem bq2 {x a c b n n' : Nat} (h : x + b < n) (e : (Nat.ble (a + c) b && Nat.ble n n') = true) : x + a + c < n' := by
  rw [Nat.add_assoc]; exact bq1 h e
theorem bq3 {x a c d b n n' : Nat} (h : x + b < n) (e : (Nat.ble (a + c + d) b && Nat.ble n n') = true) : x + a + c + d < n' := by
  rw [Nat.add_assoc x, Nat.add_assoc x]; exact bq1 h e
/-- numbers in a chain are apart -/
noncomputable def Inc : Nat → List Nat → Prop
  | _, [] => True
  | x, y :: r => x < y ∧ Inc y r
theorem inc_lt : ∀ {l : List Nat} {x : Nat}, Inc x l → ∀ z ∈ l, x < z
  | [], _, _, _, hz => nomatch hz
  | _ :: _, _, h, z, hz => by
    rcases List.mem_cons.mp hz with rfl | hz
    · exact h.1
    · exact Nat.lt_trans h.1 (inc_lt h.2 z hz)
theorem inc_nd : ∀ {l : List Nat} {x : Nat}, Inc x l → (x :: l).Nodup ∧ ∀ z ∈ x :: l, x ≤ z
  | [], _, _ => ⟨List.nodup_cons.mpr ⟨List.not_mem_nil, List.nodup_nil⟩, fun z hz => by rw [List.mem_singleton.mp hz]; exact Nat.le_refl _⟩
  | y :: r, x, h => by
    have i := inc_nd h.2
    refine ⟨List.nodup_cons.mpr ⟨fun m => Nat.lt_irrefl _ (inc_lt (x := x) (l := y :: r) h x m), i.1⟩, fun z hz => ?_⟩
    rcases List.mem_cons.mp hz with rfl | hz
    · exact Nat.le_refl _
    · exact Nat.le_of_lt (inc_lt (x := x) (l := y :: r) h z hz)
theorem ndp {l l' : List Nat} {x : Nat} (p : l.Perm l') (h : l.Nodup ∧ ∀ z ∈ l, x ≤ z) : l'.Nodup ∧ ∀ z ∈ l', x ≤ z := ⟨p.nodup_iff.mp h.1, fun z hz => h.2 z (p.mem_iff.mpr hz)⟩
/-- a contract, its post told in pieces -/
theorem Con.useK {w : World} {hd : Option Value} {fa : Addr} {args : List Value} {D U : Nat} {l : Led} {Post : Value → Led → Prop} {K : (Value → Led → Prop) → Prop} (C : Con w hd fa args D U l Post) (el : ∀ M : Value → Led → Prop, K M → ∀ r l', Post r l' → M r l')
    {mean : ExcName → Option Value} {mg mb : Str → Option Value} {dp un : Nat} {gd : Option (List Code)} {cn : Str} {cs : Scope} {a : Addr} {ccd : Value} {cl : List (Str × Addr)} {outer : List Env} {A₀ : Around} {base h₀ : Heap} {L : Addr}
    {m : Str → Option Value} {s : Shared} {Q E : Value → Shared → Prop} {news : Led}
    (B : Below A₀ base outer h₀) (F : Fr h₀ L s.heap m) (X : (Mine.hd.heap_39 w.params).In h₀) (N : News h₀ L s.heap news) (hs : ∀ p ∈ l, p ∈ news) (T : Tp mean mg mb h₀) (hk : cs.kind = .function) (hdp : dp + D < 600) (hun : un + U < 9000)
    (ret : K (fun r l' => ∀ h' tk', Fr h₀ L h' m → News h₀ L h' l' → Q r { s with heap := h', toks := tk' })) :
    wpAny (model pw w) (atp hd dp un gd cn cs L a ccd cl outer) (call (.ref fa) args) Q E s :=
  Con.use C B F X N hs T hk hdp hun fun r h' tk' l' F' N' P => el _ ret r l' P h' tk' F' N'
/-- a contract that answers True over the same ledger -/
theorem Con.useB {w : World} {hd : Option Value} {fa : Addr} {args : List Value} {D U : Nat} {l l1 : Led} {v : Value} (C : Con w hd fa args D U l (fun r l' => r = v ∧ l' = l1))
    {mean : ExcName → Option Value} {mg mb : Str → Option Value} {dp un : Nat} {gd : Option (List Code)} {cn : Str} {cs : Scope} {a : Addr} {ccd : Value} {cl : List (Str × Addr)} {outer : List Env} {A₀ : Around} {base h₀ : Heap} {L : Addr}
    {m : Str → Option Value} {s : Shared} {Q E : Value → Shared → Prop} {news : Led}
    (B : Below A₀ base outer h₀) (F : Fr h₀ L s.heap m) (X : (Mine.hd.heap_39 w.params).In h₀) (N : News h₀ L s.heap news) (hs : ∀ p ∈ l, p ∈ news) (T : Tp mean mg mb h₀) (hk : cs.kind = .function) (hdp : dp + D < 600) (hun : un + U < 9000)
    (ret : ∀ h' tk', Fr h₀ L h' m → News h₀ L h' l1 → Q v { s with heap := h', toks := tk' }) :
    wpAny (model pw w) (atp hd dp un gd cn cs L a ccd cl outer) (call (.ref fa) args) Q E s :=
  Con.use C B F X N hs T hk hdp hun fun r h' tk' l' F' N' P => by
    obtain ⟨rfl, rfl⟩ := P
    exact ret h' tk' F' N'
/-- a contract that answers an int over the same ledger -/
theorem Con.useM {w : World} {hd : Option Value} {fa : Addr} {args : List Value} {D U : Nat} {l l1 : Led} {v : Tok → Value} (C : Con w hd fa args D U l (fun r l' => l' = l1 ∧ ∃ t, r = v t))
    {mean : ExcName → Option Value} {mg mb : Str → Option Value} {dp un : Nat} {gd : Option (List Code)} {cn : Str} {cs : Scope} {a : Addr} {ccd : Value} {cl : List (Str × Addr)} {outer : List Env} {A₀ : Around} {base h₀ : Heap} {L : Addr}
    {m : Str → Option Value} {s : Shared} {Q E : Value → Shared → Prop} {news : Led}
    (B : Below A₀ base outer h₀) (F : Fr h₀ L s.heap m) (X : (Mine.hd.heap_39 w.params).In h₀) (N : News h₀ L s.heap news) (hs : ∀ p ∈ l, p ∈ news) (T : Tp mean mg mb h₀) (hk : cs.kind = .function) (hdp : dp + D < 600) (hun : un + U < 9000)
    (ret : ∀ h' tk' t, Fr h₀ L h' m → News h₀ L h' l1 → Q (v t) { s with heap := h', toks := tk' }) :
    wpAny (model pw w) (atp hd dp un gd cn cs L a ccd cl outer) (call (.ref fa) args) Q E s :=
  Con.use C B F X N hs T hk hdp hun fun r h' tk' l' F' N' P => by
    obtain ⟨rfl, t, rfl⟩ := P
    exact ret h' tk' t F' N'
-- PART 3: the state as the ledger bears it
set_option genInjectivity false
set_option genSizeOf false
structure Acc where
  k : Int
  a : Addr
  d : Addr
  sd : Addr
  nonce : Int
  bal : Int
  code : Array UInt8
  sl : Bool
  t1 : Tok
  t2 : Tok
  t3 : Tok
  t4 : Tok
  u1 : Tok
  u2 : Tok
  u3 : Tok
  so : Obj
structure Rw where
  a : Addr
  d : Addr
  kind : Str
  addr : Int
  key : Int
  old : Value
  t1 : Tok
  t2 : Tok
  t3 : Tok
  t4 : Tok
  u1 : Tok
  u2 : Tok
  u3 : Tok
  n : Nat
abbrev ent (P : Params) (x : Str) (t : Tok) (v : Value) : DictEntry := ⟨PyData.keyHash P x, .str x t, v⟩
abbrev accO (P : Params) (x : Acc) : Obj := W.dictOf [ent P (Str.ofString "nonce") x.t1 (.int x.nonce x.u1), ent P (Str.ofString "balance") x.t2 (.int x.bal x.u2), ent P (Str.ofString "code") x.t3 (.bytes x.code x.u3), ent P (Str.ofString "storage") x.t4 (.ref x.sd)] 4
abbrev rowO (P : Params) (x : Rw) : Obj := W.dictOf [ent P (Str.ofString "kind") x.t1 (.str x.kind x.u1), ent P (Str.ofString "address") x.t2 (.int x.addr x.u2), ent P (Str.ofString "key") x.t3 (.int x.key x.u3), ent P (Str.ofString "old") x.t4 x.old] x.n
def accL (P : Params) (x : Acc) : Led := [(x.a, instObj 154 x.d), (x.d, accO P x), (x.sd, x.so)]
def rowL (P : Params) (x : Rw) : Led := [(x.a, instObj 196 x.d), (x.d, rowO P x)]
structure StV where
  st : Addr
  ds : Addr
  da : Addr
  dj : Addr
  dt : Addr
  dd : Addr
  setv : Value
  vw : Value
  vx : Value
  vo : Value
  vl : Value
  rf : Int
  trf : Tok
  k0 : Tok
  k1 : Tok
  k2 : Tok
  k3 : Tok
  k4 : Tok
  k5 : Tok
  k6 : Tok
  k7 : Tok
  k8 : Tok
  k9 : Tok
  nj : Nat
  oa : Obj
  ot : Obj
  od : Obj
  accs : List Acc
  touched : List Int
  rows : List Rw
abbrev stO (P : Params) (V : StV) : Obj := W.dictOf [ent P (Str.ofString "setting") V.k0 V.setv, ent P (Str.ofString "accounts") V.k1 (.ref V.da), ent P (Str.ofString "journal") V.k2 (.ref V.dj), ent P (Str.ofString "touched") V.k3 (.ref V.dt), ent P (Str.ofString "destroyed") V.k4 (.ref V.dd), ent P (Str.ofString "warm_ones") V.k5 V.vw, ent P (Str.ofString "warm_slots") V.k6 V.vx, ent P (Str.ofString "originals") V.k7 V.vo, ent P (Str.ofString "refund") V.k8 (.int V.rf V.trf), ent P (Str.ofString "logs") V.k9 V.vl] 10
def tlL (P : Params) (accs : List Acc) (rows : List Rw) (rest : Led) : Led := accs.flatMap (accL P) ++ (rows.flatMap (rowL P) ++ rest)
def rowsO (rows : List Rw) (nj : Nat) : Obj := W.listOf (rows.map fun r => Value.ref r.a).toArray nj
def stL (P : Params) (V : StV) (rest : Led) : Led :=
  (V.st, instObj 439 V.ds) :: (V.ds, stO P V) :: (V.da, V.oa) :: (V.dj, rowsO V.rows V.nj) :: (V.dt, V.ot) :: (V.dd, V.od) :: tlL P V.accs V.rows rest
def accKvs (accs : List Acc) : List (Int × Value) := accs.map fun x => (x.k, .ref x.a)
def tchKvs (ks : List Int) : List (Int × Value) := ks.map fun k => (k, .bool true)
def slKvs (b : Bool) (t : Tok) : List (Int × Value) := if b then [(5, .int 9 t)] else []
set_option genInjectivity true
set_option genSizeOf true
structure WF (w : World) (V : StV) (rest : Led) : Prop where
  oa : V.oa.IsDictOf (PySem.intKind pw w) (accKvs V.accs)
  ot : V.ot.IsDictOf (PySem.intKind pw w) (tchKvs V.touched)
  od : V.od.IsDictOf (PySem.intKind pw w) []
  na : (V.da == sysModules) = false
  nt : (V.dt == sysModules) = false
  nd : (V.dd == sysModules) = false
  so : ∀ x ∈ V.accs, ∃ t, x.so.IsDictOf (PySem.intKind pw w) (slKvs x.sl t)
  ns : ∀ x ∈ V.accs, (x.sd == sysModules) = false
  sa : V.accs.length ≤ 1000
  st : V.touched.length ≤ 1000
  sr : V.rows.length ≤ 10000
  ap : (keys (stL w.params V rest)).Nodup

/-- the account under k -/
def accAt (accs : List Acc) (k : Int) : Option Acc := accs.find? fun x => x.k = k
theorem accAt_mem {accs : List Acc} {k : Int} {x : Acc} (h : accAt accs k = some x) : x ∈ accs ∧ x.k = k :=
  ⟨List.mem_of_find?_eq_some h, by have := List.find?_some h; simpa using this⟩
theorem valueAt_acc (accs : List Acc) (k : Int) : valueAt (accKvs accs) k = (accAt accs k).map fun x => .ref x.a := by
  unfold valueAt accKvs accAt
  rw [List.find?_map]
  cases h : List.find? ((fun kv : Int × Value => decide (kv.1 = k)) ∘ fun x : Acc => (x.k, Value.ref x.a)) accs with
  | none =>
    have : List.find? (fun x : Acc => decide (x.k = k)) accs = none := h
    rw [this]; rfl
  | some x =>
    have : List.find? (fun x : Acc => decide (x.k = k)) accs = some x := h
    rw [this]; rfl
theorem acc_in {P : Params} {accs : List Acc} {rows : List Rw} {rest : Led} {x : Acc} (h : x ∈ accs) : (x.a, instObj 154 x.d) ∈ tlL P accs rows rest ∧ (x.d, accO P x) ∈ tlL P accs rows rest ∧ (x.sd, x.so) ∈ tlL P accs rows rest := by
  unfold tlL
  refine ⟨List.mem_append_left _ (List.mem_flatMap.mpr ⟨x, h, ?_⟩), List.mem_append_left _ (List.mem_flatMap.mpr ⟨x, h, ?_⟩), List.mem_append_left _ (List.mem_flatMap.mpr ⟨x, h, ?_⟩)⟩ <;> simp [accL]
theorem row_in {P : Params} {accs : List Acc} {rows : List Rw} {rest : Led} {x : Rw} (h : x ∈ rows) : (x.a, instObj 196 x.d) ∈ tlL P accs rows rest ∧ (x.d, rowO P x) ∈ tlL P accs rows rest := by
  unfold tlL
  refine ⟨List.mem_append_right _ (List.mem_append_left _ (List.mem_flatMap.mpr ⟨x, h, ?_⟩)), List.mem_append_right _ (List.mem_append_left _ (List.mem_flatMap.mpr ⟨x, h, ?_⟩))⟩ <;> simp [rowL]
def balAt (accs : List Acc) (k : Int) : Int := ((accAt accs k).map (·.bal)).getD 0

structure Ap (V : StV) (tl : Led) : Prop where
  c01 : @Ne Nat V.st V.ds
  c02 : @Ne Nat V.st V.da
  c03 : @Ne Nat V.st V.dj
  c04 : @Ne Nat V.st V.dt
  c05 : @Ne Nat V.st V.dd
  c12 : @Ne Nat V.ds V.da
  c13 : @Ne Nat V.ds V.dj
  c14 : @Ne Nat V.ds V.dt
  c15 : @Ne Nat V.ds V.dd
  c23 : @Ne Nat V.da V.dj
  c24 : @Ne Nat V.da V.dt
  c25 : @Ne Nat V.da V.dd
  c34 : @Ne Nat V.dj V.dt
  c35 : @Ne Nat V.dj V.dd
  c45 : @Ne Nat V.dt V.dd
  t0 : ∀ p ∈ tl, p.1 ≠ V.st
  t1 : ∀ p ∈ tl, p.1 ≠ V.ds
  t2 : ∀ p ∈ tl, p.1 ≠ V.da
  t3 : ∀ p ∈ tl, p.1 ≠ V.dj
  t4 : ∀ p ∈ tl, p.1 ≠ V.dt
  t5 : ∀ p ∈ tl, p.1 ≠ V.dd
theorem ap_of {P : Params} {V : StV} {rest : Led} (h : (keys (stL P V rest)).Nodup) : Ap V (tlL P V.accs V.rows rest) := by
  unfold keys stL at h
  simp only [List.map_cons, List.nodup_cons, List.mem_cons, List.mem_map, not_or, not_exists, not_and] at h
  obtain ⟨⟨a1, a2, a3, a4, a5, a6⟩, ⟨b2, b3, b4, b5, b6⟩, ⟨c3, c4, c5, c6⟩, ⟨d4, d5, d6⟩, ⟨e5, e6⟩, f6, _⟩ := h
  exact ⟨a1, a2, a3, a4, a5, b2, b3, b4, b5, c3, c4, c5, d4, d5, e5, a6, b6, c6, d6, e6, f6⟩
theorem kvs_len (accs : List Acc) : (accKvs accs).length = accs.length := List.length_map ..
theorem tch_len (ks : List Int) : (tchKvs ks).length = ks.length := List.length_map ..
theorem WF.sz {w : World} {V : StV} {rest : Led} (H : WF w V rest) : (accKvs V.accs).length ≤ sizeLine := by
  have := H.sa; rw [sizeLine_eq, kvs_len]; omega
theorem WF.szt {w : World} {V : StV} {rest : Led} (H : WF w V rest) : (tchKvs V.touched).length ≤ sizeLine := by
  have := H.st; rw [sizeLine_eq, tch_len]; omega
theorem valueAt_tch (ks : List Int) (k : Int) : (valueAt (tchKvs ks) k).isSome = decide (k ∈ ks) := by
  rw [valueAt_isSome_eq_any]
  unfold tchKvs
  rw [List.any_map, Bool.eq_iff_iff, List.any_eq_true, decide_eq_true_eq]
  constructor
  · rintro ⟨x, hx, e⟩
    have e' : x = k := by simpa using e
    exact e' ▸ hx
  · intro h
    exact ⟨k, h, by simp⟩
theorem tch_in {ks : List Int} {k : Int} (h : k ∈ ks) : (valueAt (tchKvs ks) k).isSome = true := by rw [valueAt_tch]; exact decide_eq_true h
theorem tch_out {ks : List Int} {k : Int} (h : k ∉ ks) : (valueAt (tchKvs ks) k).isSome = false := by rw [valueAt_tch]; exact decide_eq_false h
theorem valueAt_put (kvs : List (Int × Value)) (k : Int) (v : Value) : valueAt (stored kvs k v) k = some v := by
  unfold stored
  by_cases h : (kvs.any fun kv => decide (kv.1 = k)) = true
  · rw [if_pos h]
    unfold valueAt
    rw [List.find?_map]
    obtain ⟨x, hx, e⟩ := List.any_eq_true.mp h
    cases hf : List.find? ((fun kv : Int × Value => decide (kv.1 = k)) ∘ fun kv : Int × Value => if kv.1 = k then (kv.1, v) else kv) kvs with
    | none =>
      have := List.find?_eq_none.mp hf x hx
      simp only [decide_eq_true_eq] at e
      simp [e] at this
    | some y =>
      have h2 := List.find?_some hf
      simp only [Function.comp_apply, decide_eq_true_eq] at h2
      by_cases hy : y.1 = k
      · simp [hy]
      · rw [if_neg hy] at h2; exact absurd h2 hy
  · rw [if_neg h]
    unfold valueAt
    rw [List.find?_append]
    have : List.find? (fun kv : Int × Value => decide (kv.1 = k)) kvs = none := List.find?_eq_none.mpr fun x hx hk => h (List.any_eq_true.mpr ⟨x, hx, hk⟩)
    rw [this]; simp
-- PART 5: comprehensions over a dict's keys; their turns by an invariant
section
variable {prog : Program} {w : World} {A : Around} {E : Value → Shared → Prop} {s : Shared} {h₀ : Heap} {L : Addr} {m : Str → Option Value} {env : Env}
open LCg

theorem compRest_inv {elt : Expr} {x : Str} {scope : Scope} {cl : List (Str × Addr)} {S : Led → Prop} {P : Nat → Value → Prop} {Fin : List Value → Led → Prop} {n : Nat} (J : List Value → Led → Prop)
    (turn : ∀ ys news v I oI C oC D m₂ h tk (E' : Value → Shared → Prop), ys.length < n → J ys news → P ys.length v → NsObj oC m₂ → m₂ x = some v → Fr h₀ L h m → News h₀ L h ((I, oI) :: (C, oC) :: (D, lst ys) :: news) → Off3 I C D news → ((@Ne Nat I C) ∧ (@Ne Nat I D) ∧ (@Ne Nat C D)) →
      wpAny (model prog w) A (eval elt (compEnvC scope cl C env)) (CompEnd h₀ L m { s with heap := h, toks := tk } I oI C oC D (lst ys) S (fun y news' => J (ys ++ [y]) news')) E' { s with heap := h, toks := tk })
    (fin : ∀ ys news, ys.length = n → J ys news → Fin ys news) :
    ∀ k i ys news, i + k = n → ys.length = i → J ys news → CompRest prog w A h₀ L m env elt x scope cl s S P Fin k i ys news := by
  intro k
  induction k with
  | zero => intro i ys news h1 h2 hJ; exact CompRest.zero (fin ys news (by omega) hJ)
  | succ k ih =>
    intro i ys news h1 h2 hJ
    refine CompRest.succ fun v I oI C oC D m₂ h tk E' hP hC hx F N off ne => ?_
    subst h2
    refine wpAny_mono (turn ys news v I oI C oC D m₂ h tk E' (by omega) hJ hP hC hx F N off ne) (fun y s' hy => ?_) fun _ _ e => e
    obtain ⟨h', tk', news', e, F', N', off', hS, hJ'⟩ := hy
    exact ⟨h', tk', news', e, F', N', off', hS, ih (ys.length + 1) (ys ++ [y]) news' (by omega) (by simp) hJ'⟩

theorem compRest_map {elt : Expr} {x : Str} {scope : Scope} {cl : List (Str × Addr)} {S : Led → Prop} {P : Nat → Value → Prop} {Fin : List Value → Led → Prop} {n : Nat} {news : Led} (R : Nat → Value → Prop)
    (turn : ∀ i v I oI C oC D ys m₂ h tk (E' : Value → Shared → Prop), i < n → P i v → NsObj oC m₂ → m₂ x = some v → Fr h₀ L h m → News h₀ L h ((I, oI) :: (C, oC) :: (D, lst ys) :: news) → Off3 I C D news → ((@Ne Nat I C) ∧ (@Ne Nat I D) ∧ (@Ne Nat C D)) →
      wpAny (model prog w) A (eval elt (compEnvC scope cl C env)) (CompEnd h₀ L m { s with heap := h, toks := tk } I oI C oC D (lst ys) S (fun y news' => news' = news ∧ R i y)) E' { s with heap := h, toks := tk })
    (fin : ∀ ys, ys.length = n → (∀ (j : Nat) (y : Value), ys[j]? = some y → R j y) → Fin ys news) :
    CompRest prog w A h₀ L m env elt x scope cl s S P Fin n 0 [] news := by
  refine compRest_inv (n := n) (J := fun ys nw => nw = news ∧ ∀ (j : Nat) (y : Value), ys[j]? = some y → R j y) ?_ ?_ n 0 [] news (Nat.zero_add n) rfl ⟨rfl, fun j y h => by simp at h⟩
  · rintro ys nw v I oI C oC D m₂ h tk E' hlt ⟨rfl, hR⟩ hP hC hx F N off ne
    refine wpAny_mono (turn ys.length v I oI C oC D ys m₂ h tk E' hlt hP hC hx F N off ne) (fun y s' hy => ?_) fun _ _ e => e
    obtain ⟨h', tk', news', e, F', N', off', hS, hn, hr⟩ := hy
    refine ⟨h', tk', news', e, F', N', off', hS, hn, fun j z hz => ?_⟩
    rcases Nat.lt_trichotomy j ys.length with hj | hj | hj
    · rw [List.getElem?_append_left hj] at hz; exact hR j z hz
    · subst hj
      rw [List.getElem?_append_right (Nat.le_refl _)] at hz
      simp at hz
      subst hz; exact hr
    · rw [List.getElem?_eq_none (by simp; omega)] at hz; cases hz
  · rintro ys nw hl ⟨rfl, hR⟩
    exact fin ys hl hR

def SrcD (prog : Program) (w : World) (A : Around) (h₀ : Heap) (L : Addr) (m : Str → Option Value) (env : Env) (elt : Expr) (x : Str) (scope : Scope) (cl : List (Str × Addr)) (Fin : Shared → List Value → Led → Prop) (xv : Value) (s₁ : Shared) : Prop :=
  ∃ (d : Addr) (o : Obj) (kvs : List (Int × Value)) (news : Led), xv = .ref d ∧ A.handled = none ∧ Fr h₀ L s₁.heap m ∧ News h₀ L s₁.heap news ∧ (d, o) ∈ news ∧ o.IsDictOf (PySem.intKind prog w) kvs ∧ (d == sysModules) = false ∧ kvs.length ≤ sizeLine ∧
    ∀ s₂ : Shared, (∃ h, s₂ = { s₁ with heap := h }) → CompRest prog w A h₀ L m env elt x scope cl s₂ (fun nw => (d, o) ∈ nw) (fun i v => ∃ k u t, kvs[i]? = some (k, u) ∧ v = .int k t) (Fin s₂) kvs.length 0 [] news

theorem keyiter_keep {h h' : Heap} {I d : Addr} {i n ep : Nat} {o : Obj} (st : h.IsKeyIter I d i n ep) (e : h.get? I = some o) (e' : h'.get? I = some o) : h'.IsKeyIter I d i n ep := by
  obtain ⟨o', q, r⟩ := st
  rw [e] at q; cases q
  exact ⟨o, e', r⟩

theorem walks_weaken {I : Addr} {fp wr : List Addr} {n : Nat} {P P' : Nat → Value → Prop} {St : Nat → Heap → Prop} (W : Walks prog w A I fp wr n P St) (h : ∀ i v, P i v → P' i v) : Walks prog w A I fp wr n P' St :=
  { sub := W.sub, frame := W.frame, done := W.done, self := W.self, item := fun i s Q E hi st hQ => W.item i s Q E hi st fun v h' tk hP => hQ v h' tk (h i v hP) }

theorem ListComp_D {elt iter : Expr} {x : Str} {px : Pos} {scope : Scope} {cl : List (Str × Addr)} {pos : Pos} {Q : Value → Shared → Prop} (F₀ : Fr h₀ L s.heap m)
    (hclos : closureFor scope env = pure cl) (hcell : ∀ y ∈ scope.names, y.2 ≠ .cell) (hkind : scope.kind = .function)
    (hnames : ∀ y ∈ scope.names, y.2 = .local → scope.names.lookup y.1 = some .local) (hx : scope.names.lookup x = some .local)
    (h : wpAny (model prog w) A (eval iter env) (SrcD prog w A h₀ L m env elt x scope cl (fun s₂ => FinE h₀ L m s₂ Q)) E s)
    (hs : ∀ x, foldedSetIterable iter env x = pure x := by intro _; rfl) :
    wpAny (model prog w) A (eval (.ListComp elt [⟨.Name x px, iter, [], 0⟩] scope pos) env) Q E s := by
  rw [eval_ListComp]
  refine wpAny_comprehension_free (use := none) rfl hs hclos hkind hnames (wpAny_mono h (fun xv s₁ h₁ => ?_) fun _ _ e => e)
  obtain ⟨d, o, kvs, news, rfl, hh, F, N, hm, hd, lo, hsz, R⟩ := h₁
  have hD : s₁.heap.DictOf (PySem.intKind prog w) d kvs := Heap.dictOf_iff.mpr ⟨o, (N _ hm).1, hd⟩
  obtain ⟨ep, hat⟩ := hD.dictAt
  have hlt : d < s₁.heap.objs.size := hat.lt_size
  refine wpAny_pyIter_dict lo hat ?_
  have up : ∀ (ob : Obj) b o, s₁.heap.get? b = some o → (s₁.heap.push ob).get? b = some o := fun ob b o e => Heap.get?_push_of_some _ e
  have W : Walks prog w A s₁.heap.objs.size _ _ _ (fun i v => ∃ k u t, kvs[i]? = some (k, u) ∧ v = .int k t) _ :=
    walks_weaken (Walks.dictKeys (knd := PySem.intKind prog w) hh s₁.heap.objs.size d (Nat.ne_of_lt hlt) kvs ep) (fun i v hv => by
      obtain ⟨k, u, h1, h2⟩ := hv
      obtain ⟨t, rfl⟩ := Value.isInt_shape h2
      exact ⟨k, u, t, h1, rfl⟩)
  refine block_U W hsz (fun i h st => by obtain ⟨o, e, _⟩ := st.1; exact ⟨o, e⟩) (fun i h h' ob nw st e e' k N' hS => ⟨keyiter_keep st.1 e e', ?_⟩) hcell hkind hx ⟨⟨_, Heap.get?_push_size _ rfl, rfl, rfl⟩, hat.push _⟩ (fun b hb => ?_)
      (F.keeps (up _)) (N.grown (up _)) (Nat.ne_of_lt F.ns.lt) (next_is_new F) (fun p hp => Nat.ne_of_lt (Heap.lt_size (N p hp).1)) hm (R _ ⟨_, rfl⟩) ?_
  · obtain ⟨o1, es1, g1, g2, g3, g4, g5, g6⟩ := hat
    have e0 : o1 = o := Option.some.inj (g1.symm.trans (N _ hm).1)
    subst e0
    exact ⟨o1, es1, (N' _ hS).1, g2, g3, g4, g5, g6⟩
  · show b < (s₁.heap.push _).objs.size
    rw [Heap.size_push]
    rcases List.mem_cons.mp hb with rfl | hb
    · exact Nat.lt_succ_self _
    · rw [List.mem_singleton.mp hb]; exact Nat.lt_succ_of_lt hlt
  · intro D C h tk m' ys news' F' N' o1 hn hC₀ hD₀ hCL hDL hCD offC fin
    refine ⟨m', hn, fun h'' hs'' => fin D h'' tk (F'.change hs'' hCL hC₀) (fun p hp => ?_) o1⟩
    refine ⟨hs''.extBut _ _ ?_ (N' p hp).1, (N' p hp).2⟩
    rcases List.mem_cons.mp hp with rfl | hp
    · exact Ne.symm hCD
    · exact offC p hp
end
theorem fill_k : PySem.Challenge.rw_sa0313_01 = PySem.Challenge.rw_sa0313_01 → Mine.hd.heap_39 = Mine.hd.heap_39 → True := by
  k_fill
  intros
  trivial
local macro_rules | `(tactic| walk_at $s:str) => `(tactic| k_extra $s)
local macro_rules | `(tactic| k_all) => `(tactic| walk_at "ALL")
local macro_rules | `(tactic| k_lt $h) => `(tactic| (refine ltk_elim (allLt_of $h) ?_; clear $h; walk_at "LT2"))
local macro_rules | `(tactic| k_room) => `(tactic| walk_at "ROOM")
local macro_rules | `(tactic| k_units) => `(tactic| walk_at "UNITS")
local macro_rules | `(tactic| k_enter) => `(tactic| first | k_extra "ENT" | k_extra "ENTC")
local macro_rules | `(tactic| ktr_enter) => `(tactic| (refine wpAny_call ?_; k_enter))
local macro_rules | `(tactic| k_mem) => `(tactic| walk_at "MEM")
local macro_rules | `(tactic| k_steps) => `(tactic| walk_at "KSTEPS")
local macro_rules | `(tactic| k_ne) => `(tactic| walk_at "NE")
theorem rows_1 : True := by
  k_with_none
  k_with "ALL" => first | assumption | exact ne_of_allLt (by assumption)
  k_with "LT2" => ((try dsimp only [AllLtK]); intros; (try refine ltk_tail fun _ => ?_))
  k_with "ROOM" => first | exact Nat.le_of_ble_eq_true rfl | exact bq2 (by assumption) (by rfl) | exact bq1 (by assumption) (by rfl) | exact bq3 (by assumption) (by rfl) | exact bq0 (by assumption) (by rfl) | ((simp only [depth_under_make, depth_under_kw, depth_in1, depth_deeper, depth_caller, rl]); omega)
  k_with "UNITS" => first | exact Nat.le_of_ble_eq_true rfl | exact bq2 (by assumption) (by rfl) | exact bq1 (by assumption) (by rfl) | exact bq3 (by assumption) (by rfl) | exact bq0 (by assumption) (by rfl) | ((have hcL9 := cLine_is); (simp only [units_in1, units_deeper, Around.mark_units, units_caller]); omega)
  k_with "compareOp In int ref" => (k_here; k_dflt (refine' kda_in (knd := PySem.intKind _ _) (by k_asm) (by k_mem) (by k_asm) (by k_asm) (intKind_is _ _ _ _) _ (by assumption) ?_))
  k_with "compareOp NotIn int ref" => (k_here; k_dflt (refine' kdg_notin (knd := PySem.intKind _ _) (by k_asm) (by k_mem) (by k_asm) (by k_asm) (intKind_is _ _ _ _) _ (by assumption) ?_); (try dsimp only [Bool.not_true, Bool.not_false]))
  k_with "getItem ref int" => (k_here; k_dflt (refine kdt_getItem (knd := PySem.intKind _ _) (by k_asm) (by k_mem) (by k_asm) (intKind_is _ _ _ _) (by first | assumption | exact valueAt_put _ _ _) ?_))
  k_with "subscriptTail" => (k_here; (with_reducible show wpAny _ _ (subscriptTail _ _ (Value.ref _) (Value.int _ _)) _ _ _); k_dflt (refine kdt_tail (knd := PySem.intKind _ _) (by k_asm) (by k_mem) (by k_asm) ?_))
  k_with "MEM" => ((repeat (first | exact List.mem_cons_self | assumption | refine List.mem_cons_of_mem _ ?_)); done)
  k_with "eval ListComp" => refine halt_ ?_
  k_with "exec For" => refine halt_ ?_
  k_with "exec While" => refine halt_ ?_
  k_with "call ref" => ((with_reducible first
  | show wpAny _ _ (call (Value.ref 81) _) _ _ _ | show wpAny _ _ (call (Value.ref 207) _) _ _ _ | show wpAny _ _ (call (Value.ref 214) _) _ _ _
  | show wpAny _ _ (call (Value.ref 247) _) _ _ _ | show wpAny _ _ (call (Value.ref 254) _) _ _ _ | show wpAny _ _ (call (Value.ref 282) _) _ _ _ | show wpAny _ _ (call (Value.ref 289) _) _ _ _
  | show wpAny _ _ (call (Value.ref 310) _) _ _ _ | show wpAny _ _ (call (Value.ref 324) _) _ _ _ | show wpAny _ _ (call (Value.ref 345) _) _ _ _ | show wpAny _ _ (call (Value.ref 422) _) _ _ _ | show wpAny _ _ (call (Value.ref 429) _) _ _ _ | show wpAny _ _ (call (Value.ref 436) _) _ _ _
  | show wpAny _ _ (call (Value.ref 450) _) _ _ _ | show wpAny _ _ (call (Value.ref 457) _) _ _ _ | show wpAny _ _ (call (Value.ref 462) _) _ _ _ | show wpAny _ _ (call (Value.ref 467) _) _ _ _ | show wpAny _ _ (call (Value.ref 474) _) _ _ _ | show wpAny _ _ (call (Value.ref 479) _) _ _ _ | show wpAny _ _ (call (Value.ref 486) _) _ _ _); refine halt_ ?_)
  k_with "SUB" => ((repeat (first | assumption | refine List.mem_cons_of_mem _ ?_)); done)
  k_with "setItem ref int" => (k_here; k_dflt (refine' kda_set (knd := PySem.intKind _ _) (by k_asm) (by k_asm) (by k_updF) (by k_asm) (intKind_is _ _ _ _) (by assumption) ?_); intro hz9 oz9 Fz9 Nz9 hdz9; (try dsimp only at Nz9); revert hz9 oz9 Fz9 Nz9 hdz9; intro _ _ _ _ _)
  k_with "call builtin:list.append" => (k_here; (with_reducible show wpAny _ _ (call (Value.builtin _) [Value.ref _, _]) _ _ _); k_dflt (refine' append_K (by k_asm) (by k_asm) (by k_upd) ?_ (by first | assumption | (simp only [Array.size_push, List.size_toArray, List.length_map, sizeLine_eq]; omega)); k_whole); intro _ _ _; (try k_sweep))
  k_with "execs cons" => ((with_reducible refine wpAny_execs_cons ?_); (try dsimp only); k_fold; (rename Flow → Shared → Prop => qz9); (rename Value → Shared → Prop => ez9))
  k_with "KSTEPS" => repeat' (first | (k_unfold; (try clear ez9); (try clear qz9); (try clear ek); (try clear qk); (try dsimp only)) | (k_end; kc_close) | walk1 | (dsimp only; walk1) | (leave1; walk_say "STEP leave1"; (try dsimp only)) | fail "no step")
  k_with "NE" => (refine neN ?_; (try dsimp only); first | assumption | (refine Ne.symm ?_; assumption) | (refine Nat.ne_of_lt ?_; first | assumption | (refine Nat.lt_trans ?_ (by assumption); assumption) | (refine Nat.lt_trans ?_ (by assumption); refine Nat.lt_trans ?_ (by assumption); assumption)) | (refine Nat.ne_of_gt ?_; first | assumption | (refine Nat.lt_trans ?_ (by assumption); assumption) | (refine Nat.lt_trans ?_ (by assumption); refine Nat.lt_trans ?_ (by assumption); assumption)))
  k_with "ENTC" => (refine' code_defC ?k1v0 ?k2v0 ?k3v0 ?k4v0 ?k5v0 ?kAv0 ?kFv0 ?kKv0 ?k6v0 ?k7v0 ?k8v0 ?k9v0 ?kBv0 ?kDv0 ?_ ?c2v0 ?c3v0 ?c4v0; (case kAv0 | kFv0 => exact rfl); (case kKv0 => first | exact rfl | assumption); (case k1v0 | k2v0 | k3v0 | k4v0 | k5v0 => k_asm); (case k6v0 | k7v0 => k_is); (case k8v0 => k_room); (case k9v0 => exact BindsTo.of_eq rfl); (case kBv0 => exact rfl); (case kDv0 => decide +kernel); (case c2v0 | c3v0 | c4v0 => exact rfl); k_whole; intro gz9 Lz9 hz9 tkz9 cz9 FGz9 Fz9 Nz9 Yz9 Bz9 Xz9 Tz9 l1z9; (try k_lt l1z9); k_cells Yz9; (try simp only [List.cons_append, List.nil_append] at Nz9); revert gz9 Lz9 hz9 tkz9; intros; (try dsimp only); (try k_fold))
  k_with "ENTC" => (refine' code_defC ?k1v1 ?k2v1 ?k3v1 ?k4v1 ?k5v1 ?kAv1 ?kFv1 ?kKv1 ?k6v1 ?k7v1 ?k8v1 ?k9v1 ?kBv1 ?kDv1 ?_ ?c2v1 ?c3v1 ?c4v1; (case kAv1 | kFv1 => exact rfl); (case kKv1 => first | exact rfl | assumption); (case k1v1 | k2v1 | k3v1 | k4v1 | k5v1 => k_asm); (case k6v1 | k7v1 => k_is); (case k8v1 => k_room); (case k9v1 => exact BindsTo.of_eq rfl); (case kBv1 => exact rfl); (case kDv1 => decide +kernel); (case c2v1 | c3v1 | c4v1 => exact rfl); k_whole; intro gz9 Lz9 hz9 tkz9 cz9 FGz9 Fz9 Nz9 Yz9 Bz9 Xz9 Tz9 l1z9; (try k_lt l1z9); k_cells Yz9; (try simp only [List.cons_append, List.nil_append] at Nz9); revert gz9 Lz9 hz9 tkz9; intros; (try dsimp only); (try k_fold))
  k_with "ENTC" => (refine' code_defC ?k1v2 ?k2v2 ?k3v2 ?k4v2 ?k5v2 ?kAv2 ?kFv2 ?kKv2 ?k6v2 ?k7v2 ?k8v2 ?k9v2 ?kBv2 ?kDv2 ?_ ?c2v2 ?c3v2 ?c4v2; (case kAv2 | kFv2 => exact rfl); (case kKv2 => first | exact rfl | assumption); (case k1v2 | k2v2 | k3v2 | k4v2 | k5v2 => k_asm); (case k6v2 | k7v2 => k_is); (case k8v2 => k_room); (case k9v2 => exact BindsTo.of_eq rfl); (case kBv2 => exact rfl); (case kDv2 => decide +kernel); (case c2v2 | c3v2 | c4v2 => exact rfl); k_whole; intro gz9 Lz9 hz9 tkz9 cz9 FGz9 Fz9 Nz9 Yz9 Bz9 Xz9 Tz9 l1z9; (try k_lt l1z9); k_cells Yz9; (try simp only [List.cons_append, List.nil_append] at Nz9); revert gz9 Lz9 hz9 tkz9; intros; (try dsimp only); (try k_fold))
  k_with "ENT" => (refine' code_def ?k1v0 ?k2v0 ?k3v0 ?k4v0 ?k5v0 ?kAv0 ?kFv0 ?kKv0 ?k6v0 ?k7v0 ?k8v0 ?k9v0 ?kBv0 ?_ ?c2v0 ?c3v0 ?c4v0 ?c5v0; (case kAv0 | kFv0 => exact rfl); (case kKv0 => first | exact rfl | assumption); (case k1v0 | k2v0 | k3v0 | k4v0 | k5v0 => k_asm); (case k6v0 | k7v0 => k_is); (case k8v0 => k_room); (case k9v0 => exact BindsTo.of_eq rfl); (case c5v0 => decide); (case kBv0 => exact locs rfl); (case c2v0 | c3v0 | c4v0 => exact rfl); k_whole; intro _ _ _ _ _ _ _ _ _; (try dsimp only); (try k_fold))
  k_with "ENT" => (refine' code_def ?k1v1 ?k2v1 ?k3v1 ?k4v1 ?k5v1 ?kAv1 ?kFv1 ?kKv1 ?k6v1 ?k7v1 ?k8v1 ?k9v1 ?kBv1 ?_ ?c2v1 ?c3v1 ?c4v1 ?c5v1; (case kAv1 | kFv1 => exact rfl); (case kKv1 => first | exact rfl | assumption); (case k1v1 | k2v1 | k3v1 | k4v1 | k5v1 => k_asm); (case k6v1 | k7v1 => k_is); (case k8v1 => k_room); (case k9v1 => exact BindsTo.of_eq rfl); (case c5v1 => decide); (case kBv1 => exact locs rfl); (case c2v1 | c3v1 | c4v1 => exact rfl); k_whole; intro _ _ _ _ _ _ _ _ _; (try dsimp only); (try k_fold))
  k_with "ENT" => (refine' code_def ?k1v2 ?k2v2 ?k3v2 ?k4v2 ?k5v2 ?kAv2 ?kFv2 ?kKv2 ?k6v2 ?k7v2 ?k8v2 ?k9v2 ?kBv2 ?_ ?c2v2 ?c3v2 ?c4v2 ?c5v2; (case kAv2 | kFv2 => exact rfl); (case kKv2 => first | exact rfl | assumption); (case k1v2 | k2v2 | k3v2 | k4v2 | k5v2 => k_asm); (case k6v2 | k7v2 => k_is); (case k8v2 => k_room); (case k9v2 => exact BindsTo.of_eq rfl); (case c5v2 => decide); (case kBv2 => exact locs rfl); (case c2v2 | c3v2 | c4v2 => exact rfl); k_whole; intro _ _ _ _ _ _ _ _ _; (try dsimp only); (try k_fold))
  k_with "ENT" => (refine' code_def ?k1v3 ?k2v3 ?k3v3 ?k4v3 ?k5v3 ?kAv3 ?kFv3 ?kKv3 ?k6v3 ?k7v3 ?k8v3 ?k9v3 ?kBv3 ?_ ?c2v3 ?c3v3 ?c4v3 ?c5v3; (case kAv3 | kFv3 => exact rfl); (case kKv3 => first | exact rfl | assumption); (case k1v3 | k2v3 | k3v3 | k4v3 | k5v3 => k_asm); (case k6v3 | k7v3 => k_is); (case k8v3 => k_room); (case k9v3 => exact BindsTo.of_eq rfl); (case c5v3 => decide); (case kBv3 => exact locs rfl); (case c2v3 | c3v3 | c4v3 => exact rfl); k_whole; intro _ _ _ _ _ _ _ _ _; (try dsimp only); (try k_fold))
  k_with "ENT" => (refine' code_def ?k1v4 ?k2v4 ?k3v4 ?k4v4 ?k5v4 ?kAv4 ?kFv4 ?kKv4 ?k6v4 ?k7v4 ?k8v4 ?k9v4 ?kBv4 ?_ ?c2v4 ?c3v4 ?c4v4 ?c5v4; (case kAv4 | kFv4 => exact rfl); (case kKv4 => first | exact rfl | assumption); (case k1v4 | k2v4 | k3v4 | k4v4 | k5v4 => k_asm); (case k6v4 | k7v4 => k_is); (case k8v4 => k_room); (case k9v4 => exact BindsTo.of_eq rfl); (case c5v4 => decide); (case kBv4 => exact locs rfl); (case c2v4 | c3v4 | c4v4 => exact rfl); k_whole; intro _ _ _ _ _ _ _ _ _; (try dsimp only); (try k_fold))
  k_with "ENT" => (refine' code_def ?k1v5 ?k2v5 ?k3v5 ?k4v5 ?k5v5 ?kAv5 ?kFv5 ?kKv5 ?k6v5 ?k7v5 ?k8v5 ?k9v5 ?kBv5 ?_ ?c2v5 ?c3v5 ?c4v5 ?c5v5; (case kAv5 | kFv5 => exact rfl); (case kKv5 => first | exact rfl | assumption); (case k1v5 | k2v5 | k3v5 | k4v5 | k5v5 => k_asm); (case k6v5 | k7v5 => k_is); (case k8v5 => k_room); (case k9v5 => exact BindsTo.of_eq rfl); (case c5v5 => decide); (case kBv5 => exact locs rfl); (case c2v5 | c3v5 | c4v5 => exact rfl); k_whole; intro _ _ _ _ _ _ _ _ _; (try dsimp only); (try k_fold))
  k_with "ENT" => (refine' code_def ?k1v6 ?k2v6 ?k3v6 ?k4v6 ?k5v6 ?kAv6 ?kFv6 ?kKv6 ?k6v6 ?k7v6 ?k8v6 ?k9v6 ?kBv6 ?_ ?c2v6 ?c3v6 ?c4v6 ?c5v6; (case kAv6 | kFv6 => exact rfl); (case kKv6 => first | exact rfl | assumption); (case k1v6 | k2v6 | k3v6 | k4v6 | k5v6 => k_asm); (case k6v6 | k7v6 => k_is); (case k8v6 => k_room); (case k9v6 => exact BindsTo.of_eq rfl); (case c5v6 => decide); (case kBv6 => exact locs rfl); (case c2v6 | c3v6 | c4v6 => exact rfl); k_whole; intro _ _ _ _ _ _ _ _ _; (try dsimp only); (try k_fold))
  k_with "ENT" => (refine' code_def ?k1v7 ?k2v7 ?k3v7 ?k4v7 ?k5v7 ?kAv7 ?kFv7 ?kKv7 ?k6v7 ?k7v7 ?k8v7 ?k9v7 ?kBv7 ?_ ?c2v7 ?c3v7 ?c4v7 ?c5v7; (case kAv7 | kFv7 => exact rfl); (case kKv7 => first | exact rfl | assumption); (case k1v7 | k2v7 | k3v7 | k4v7 | k5v7 => k_asm); (case k6v7 | k7v7 => k_is); (case k8v7 => k_room); (case k9v7 => exact BindsTo.of_eq rfl); (case c5v7 => decide); (case kBv7 => exact locs rfl); (case c2v7 | c3v7 | c4v7 => exact rfl); k_whole; intro _ _ _ _ _ _ _ _ _; (try dsimp only); (try k_fold))
  k_with "ENT" => (refine' code_def ?k1v8 ?k2v8 ?k3v8 ?k4v8 ?k5v8 ?kAv8 ?kFv8 ?kKv8 ?k6v8 ?k7v8 ?k8v8 ?k9v8 ?kBv8 ?_ ?c2v8 ?c3v8 ?c4v8 ?c5v8; (case kAv8 | kFv8 => exact rfl); (case kKv8 => first | exact rfl | assumption); (case k1v8 | k2v8 | k3v8 | k4v8 | k5v8 => k_asm); (case k6v8 | k7v8 => k_is); (case k8v8 => k_room); (case k9v8 => exact BindsTo.of_eq rfl); (case c5v8 => decide); (case kBv8 => exact locs rfl); (case c2v8 | c3v8 | c4v8 => exact rfl); k_whole; intro _ _ _ _ _ _ _ _ _; (try dsimp only); (try k_fold))
  k_with "ENT" => (refine' code_def ?k1v9 ?k2v9 ?k3v9 ?k4v9 ?k5v9 ?kAv9 ?kFv9 ?kKv9 ?k6v9 ?k7v9 ?k8v9 ?k9v9 ?kBv9 ?_ ?c2v9 ?c3v9 ?c4v9 ?c5v9; (case kAv9 | kFv9 => exact rfl); (case kKv9 => first | exact rfl | assumption); (case k1v9 | k2v9 | k3v9 | k4v9 | k5v9 => k_asm); (case k6v9 | k7v9 => k_is); (case k8v9 => k_room); (case k9v9 => exact BindsTo.of_eq rfl); (case c5v9 => decide); (case kBv9 => exact locs rfl); (case c2v9 | c3v9 | c4v9 => exact rfl); k_whole; intro _ _ _ _ _ _ _ _ _; (try dsimp only); (try k_fold))
  k_with "ENT" => (refine' code_def ?k1v10 ?k2v10 ?k3v10 ?k4v10 ?k5v10 ?kAv10 ?kFv10 ?kKv10 ?k6v10 ?k7v10 ?k8v10 ?k9v10 ?kBv10 ?_ ?c2v10 ?c3v10 ?c4v10 ?c5v10; (case kAv10 | kFv10 => exact rfl); (case kKv10 => first | exact rfl | assumption); (case k1v10 | k2v10 | k3v10 | k4v10 | k5v10 => k_asm); (case k6v10 | k7v10 => k_is); (case k8v10 => k_room); (case k9v10 => exact BindsTo.of_eq rfl); (case c5v10 => decide); (case kBv10 => exact locs rfl); (case c2v10 | c3v10 | c4v10 => exact rfl); k_whole; intro _ _ _ _ _ _ _ _ _; (try dsimp only); (try k_fold))
  k_with "ENT" => (refine' code_def ?k1v11 ?k2v11 ?k3v11 ?k4v11 ?k5v11 ?kAv11 ?kFv11 ?kKv11 ?k6v11 ?k7v11 ?k8v11 ?k9v11 ?kBv11 ?_ ?c2v11 ?c3v11 ?c4v11 ?c5v11; (case kAv11 | kFv11 => exact rfl); (case kKv11 => first | exact rfl | assumption); (case k1v11 | k2v11 | k3v11 | k4v11 | k5v11 => k_asm); (case k6v11 | k7v11 => k_is); (case k8v11 => k_room); (case k9v11 => exact BindsTo.of_eq rfl); (case c5v11 => decide); (case kBv11 => exact locs rfl); (case c2v11 | c3v11 | c4v11 => exact rfl); k_whole; intro _ _ _ _ _ _ _ _ _; (try dsimp only); (try k_fold))
  k_with "ENT" => (refine' code_def ?k1v12 ?k2v12 ?k3v12 ?k4v12 ?k5v12 ?kAv12 ?kFv12 ?kKv12 ?k6v12 ?k7v12 ?k8v12 ?k9v12 ?kBv12 ?_ ?c2v12 ?c3v12 ?c4v12 ?c5v12; (case kAv12 | kFv12 => exact rfl); (case kKv12 => first | exact rfl | assumption); (case k1v12 | k2v12 | k3v12 | k4v12 | k5v12 => k_asm); (case k6v12 | k7v12 => k_is); (case k8v12 => k_room); (case k9v12 => exact BindsTo.of_eq rfl); (case c5v12 => decide); (case kBv12 => exact locs rfl); (case c2v12 | c3v12 | c4v12 => exact rfl); k_whole; intro _ _ _ _ _ _ _ _ _; (try dsimp only); (try k_fold))
  k_with "ENT" => (refine' code_def ?k1v13 ?k2v13 ?k3v13 ?k4v13 ?k5v13 ?kAv13 ?kFv13 ?kKv13 ?k6v13 ?k7v13 ?k8v13 ?k9v13 ?kBv13 ?_ ?c2v13 ?c3v13 ?c4v13 ?c5v13; (case kAv13 | kFv13 => exact rfl); (case kKv13 => first | exact rfl | assumption); (case k1v13 | k2v13 | k3v13 | k4v13 | k5v13 => k_asm); (case k6v13 | k7v13 => k_is); (case k8v13 => k_room); (case k9v13 => exact BindsTo.of_eq rfl); (case c5v13 => decide); (case kBv13 => exact locs rfl); (case c2v13 | c3v13 | c4v13 => exact rfl); k_whole; intro _ _ _ _ _ _ _ _ _; (try dsimp only); (try k_fold))
  trivial
-- PART 2: _law_draw
def wellO (xl : Addr) (spot st : Int) (t1 t2 : Tok) (n : Nat) : Obj := W.listOf #[.ref xl, .int spot t1, .int st t2] n

set_option maxHeartbeats 4000000 in
theorem draw_con {w : World} (wl xl : Addr) (vs : List Value) (ns : List Int) (spot st many : Int) (t1 t2 tm : Tok) (n nn : Nat) (tail : Led)
    (hi : IntsAre vs ns) (hlen : ns.length ≤ 40) (h0 : 0 ≤ spot) (h1 : spot ≤ 1000) (h2 : 0 ≤ st) (h3 : st < 101) (h4 : 0 < many) (h5 : many ≤ 2 ^ 64) (hne : @Ne Nat wl xl) (hnt : ∀ p ∈ tail, p.1 ≠ wl) :
    Con w none 450 [.ref wl, .int many tm] 1 20 ((wl, wellO xl spot st t1 t2 n) :: (xl, W.listOf vs.toArray nn) :: tail)
      (fun r l' => ∃ r₀ t st' t1' t2' n', r = .int r₀ t ∧ 0 ≤ r₀ ∧ r₀ < many ∧ 0 ≤ st' ∧ st' < 101 ∧ l' = (wl, wellO xl (spot + 1) st' t1' t2' n') :: (xl, W.listOf vs.toArray nn) :: tail) := by
  intro mean mg mb dp un gd cn cs a ccd cl outer A₀ base h₀ L m s Q E B F X N T hk hd hu ret
  unfold wellO at N
  k_dflt ktr_enter
  k_steps
  all_goals (refine ret _ _ _ _ (by k_asm) (News.sub (by k_asm) (fun p hp => List.Mem.tail _ hp)) ⟨_, _, _, _, _, _, rfl, ?_, ?_, ?_, ?_, rfl⟩)
  all_goals first | exact Int.fmod_nonneg_of_pos _ (by omega) | exact Int.fmod_lt_of_pos _ (by omega)
-- PART 4: State.balance, State.mark
set_option maxHeartbeats 4000000 in
theorem balance_con {w : World} {hv0 : Option Value} (V : StV) (rest : Led) (H : WF w V rest) (k : Int) (t : Tok) :
    Con w hv0 282 [.ref V.st, .int k t] 1 40 (stL w.params V rest) (fun r l' => l' = stL w.params V rest ∧ ∃ t, r = .int (balAt V.accs k) t) := by
  intro mean mg mb dp un gd cn cs a ccd cl outer A₀ base h₀ L m s Q E B F X N T hk hd hu ret
  have hoa := H.oa
  have hna := H.na
  have hv := valueAt_acc V.accs k
  have hl : stL w.params V rest = (V.st, instObj 439 V.ds) :: (V.ds, stO w.params V) :: (V.da, V.oa) :: (V.dj, rowsO V.rows V.nj) :: (V.dt, V.ot) :: (V.dd, V.od) :: tlL w.params V.accs V.rows rest := rfl
  rw [hl] at ret
  unfold stL at N
  unfold balAt at ret
  cases hx : accAt V.accs k with
  | none =>
    rw [hx] at hv ret
    have hv2 : (valueAt (accKvs V.accs) k).isSome = false := by rw [hv]; rfl
    generalize tlL w.params V.accs V.rows rest = tl at N ret
    k_dflt ktr_enter
    k_steps
    exact ret _ _ _ _ (by k_asm) (by k_asm) ⟨rfl, _, rfl⟩
  | some x =>
    rw [hx] at hv ret
    simp only [Option.map_some] at hv
    have hv2 : (valueAt (accKvs V.accs) k).isSome = true := by rw [hv]; rfl
    obtain ⟨hm, hxk⟩ := accAt_mem hx
    obtain ⟨m1, m2, m3⟩ := acc_in (P := w.params) (rows := V.rows) (rest := rest) hm
    generalize tlL w.params V.accs V.rows rest = tl at N ret m1 m2 m3
    k_dflt ktr_enter
    k_steps
    exact ret _ _ _ _ (by k_asm) (by k_asm) ⟨rfl, _, rfl⟩
-- PART 6: State.total
def totOf (accs : List Acc) : Int := (accs.map (·.bal)).sum
theorem ints_of {ys : List Value} {ns : List Int} {n : Nat} (hl : ys.length = n) (hn : n = ns.length) (h : ∀ (j : Nat) (y : Value), ys[j]? = some y → ∃ t, (ns[j]?).map (fun z => Value.int z t) = some y) : IntsAre ys ns :=
  kdy_ints (hl.trans hn) fun j y hj => by
    obtain ⟨t, ht⟩ := h j y hj
    obtain ⟨z, hz, he⟩ := Option.map_eq_some_iff.mp ht
    exact ⟨z, hz, t, he.symm⟩
set_option maxHeartbeats 4000000 in
theorem total_con {w : World} (V : StV) (rest : Led) (H : WF w V rest) :
    Con w none 247 [.ref V.st] 2 60 (stL w.params V rest) (fun r l' => l' = stL w.params V rest ∧ ∃ t, r = .int (totOf V.accs) t) := by
  intro mean mg mb dp un gd cn cs a ccd cl outer A₀ base h₀ L m s Q E B F X N T hk hd hu ret
  have hoa := H.oa
  have hna := H.na
  have hl : stL w.params V rest = (V.st, instObj 439 V.ds) :: (V.ds, stO w.params V) :: (V.da, V.oa) :: (V.dj, rowsO V.rows V.nj) :: (V.dt, V.ot) :: (V.dd, V.od) :: tlL w.params V.accs V.rows rest := rfl
  rw [hl] at ret
  unfold stL at N
  have hm : ∀ x ∈ V.accs, _ := fun x hx => acc_in (P := w.params) (rows := V.rows) (rest := rest) hx
  generalize tlL w.params V.accs V.rows rest = tl at N ret hm
  k_dflt ktr_enter
  k_steps
  unfold Halt
  k_dflt (refine ListComp_D (F₀ := by k_asm) (by with_unfolding_all rfl) (by decide) (by rfl) (by decide) (by rfl) ?_)
  k_steps
  have hsz : (accKvs V.accs).length ≤ sizeLine := by
    have h1 := H.sa
    rw [sizeLine_eq]; unfold accKvs; rw [List.length_map]; omega
  refine ⟨V.da, V.oa, accKvs V.accs, _, rfl, rfl, by k_asm, by k_asm, by k_mem, hoa, hna, hsz, fun s₂ e2 => ?_⟩
  obtain ⟨hh2, e2⟩ := e2
  subst e2
  refine compRest_map (R := fun i y => ∃ x t, V.accs[i]? = some x ∧ y = .int x.bal t) ?_ ?_
  · intro i v I oI C oC D ys m₂ h2 tk2 E2 hi hJ9 hC hx F2 N2 off2 ne2
    (try k_fold)
    obtain ⟨k, u, t, hku, rfl⟩ := hJ9
    have hvk := valueAt_of_get (hoa.choose_spec.choose_spec.2.2.2.2) hku
    unfold accKvs at hku
    rw [List.getElem?_map] at hku
    obtain ⟨x, hx1, hx2⟩ := Option.map_eq_some_iff.mp hku
    cases hx2
    obtain ⟨m1, m2, m3⟩ := hm x (List.mem_of_getElem? hx1)
    k_steps
    exact LCg.CompEnd.intro (by k_asm) (by k_asm) _ (fun p hp => hp) off2 (by k_mem) ⟨rfl, x, _, hx1, rfl⟩
  · intro ys hlen hR
    have hI : IntsAre ys (V.accs.map (·.bal)) := ints_of hlen (by unfold accKvs; rw [List.length_map, List.length_map]) (fun j y hj => by
      obtain ⟨x, t, h1, h2⟩ := hR j y hj
      exact ⟨t, by rw [List.getElem?_map, h1]; exact h2 ▸ rfl⟩)
    unfold LCg.FinE
    intro D h3 tk3 F3 N3 o3
    k_steps
    exact ret _ _ _ _ (by k_asm) (News.sub (by k_asm) (fun p hp => by walk_at "SUB")) ⟨rfl, _, rfl⟩
-- PART 7: Row(..), no_account()
set_option maxHeartbeats 4000000 in
theorem row_new {w : World} {hv0 : Option Value} (l : Led) (kind : Str) (addr key : Int) (old : Value) (u1 u2 u3 : Tok) :
    Con w hv0 196 [.str kind u1, .int addr u2, .int key u3, old] 2 20 l (fun r l' => ∃ R : Rw, r = .ref R.a ∧ R.kind = kind ∧ R.addr = addr ∧ R.key = key ∧ R.old = old ∧ l' = (R.a, instObj 196 R.d) :: (R.d, rowO w.params R) :: l ∧ @LT.lt Nat _ R.d R.a ∧ AllLt R.d l) := by
  intro mean mg mb dp un gd cn cs a ccd cl outer A₀ base h₀ L m s Q E B F X N T hk hd hu ret
  k_steps
  exact ret _ _ _ _ (by k_asm) (by k_asm) ⟨⟨_, _, _, _, _, _, _, _, _, _, _, _, _, _⟩, rfl, rfl, rfl, rfl, rfl, rfl, by assumption, by assumption⟩

set_option maxHeartbeats 4000000 in
theorem acc_new {w : World} {hv0 : Option Value} (l : Led) :
    Con w hv0 165 [] 4 30 l (fun r l' => ∃ x : Acc, r = .ref x.a ∧ x.nonce = 0 ∧ x.bal = 0 ∧ x.code = #[] ∧ x.sl = false ∧ l' = (x.a, instObj 154 x.d) :: (x.d, accO w.params x) :: (x.sd, x.so) :: l ∧ @LT.lt Nat _ x.sd x.d ∧ @LT.lt Nat _ x.d x.a ∧ AllLt x.sd l ∧ x.so.IsDictOf (PySem.intKind pw w) [] ∧ (x.sd == sysModules) = false) := by
  intro mean mg mb dp un gd cn cs a ccd cl outer A₀ base h₀ L m s Q E B F X N T hk hd hu ret
  k_dflt ktr_enter
  k_steps
  exact ret _ _ _ _ (by k_asm) (by k_asm) ⟨⟨0, _, _, _, _, _, _, false, _, _, _, _, _, _, _, _⟩, rfl, rfl, rfl, rfl, rfl, rfl, by assumption, by assumption, by assumption, by assumption, by assumption⟩
-- PART 8: the ledger grows
theorem allLt_mem {d : Addr} {l : Led} : AllLt d l ↔ ∀ p ∈ l, @LT.lt Nat _ p.1 d := by
  induction l with
  | nil => exact ⟨fun _ p hp => (by cases hp), fun _ => trivial⟩
  | cons q r ih =>
    constructor
    · intro h p hp
      rcases List.mem_cons.mp hp with e | hp
      · rw [e]; exact h.1
      · exact ih.mp h.2 p hp
    · intro h
      exact ⟨h q List.mem_cons_self, ih.mpr fun p hp => h p (List.mem_cons_of_mem _ hp)⟩
theorem AllLt.up {d e : Addr} {l : Led} (h : AllLt d l) (le : @LE.le Nat _ d e) : AllLt e l := allLt_mem.mpr fun p hp => Nat.lt_of_lt_of_le (allLt_mem.mp h p hp) le
theorem allLt_st {d : Addr} {P : Params} {V : StV} {rest : Led} (h0 : @LT.lt Nat _ V.st d) (h1 : @LT.lt Nat _ V.ds d) (h2 : @LT.lt Nat _ V.da d) (h3 : @LT.lt Nat _ V.dj d) (h4 : @LT.lt Nat _ V.dt d) (h5 : @LT.lt Nat _ V.dd d) (h6 : AllLt d (tlL P V.accs V.rows rest)) :
    AllLt d (stL P V rest) := ⟨h0, h1, h2, h3, h4, h5, h6⟩
def newA (as : List Acc) (rs : List Rw) : List Addr := as.flatMap (fun x => [x.a, x.d, x.sd]) ++ rs.flatMap fun r => [r.a, r.d]
def StV.grow (V : StV) (as : List Acc) (rs : List Rw) (tc : List Int) (oa ot : Obj) (nj : Nat) : StV := { V with accs := V.accs ++ as, rows := V.rows ++ rs, touched := tc, oa := oa, ot := ot, nj := nj }

theorem keys_append (a b : Led) : keys (a ++ b) = keys a ++ keys b := List.map_append ..
theorem keys_accs (P : Params) (l : List Acc) : keys (l.flatMap (accL P)) = l.flatMap fun x => [x.a, x.d, x.sd] := by
  induction l with
  | nil => rfl
  | cons x r ih => rw [List.flatMap_cons, keys_append, ih, List.flatMap_cons]; rfl
theorem keys_rows (P : Params) (l : List Rw) : keys (l.flatMap (rowL P)) = l.flatMap fun x => [x.a, x.d] := by
  induction l with
  | nil => rfl
  | cons x r ih => rw [List.flatMap_cons, keys_append, ih, List.flatMap_cons]; rfl
def cells (V : StV) : List Addr := [V.st, V.ds, V.da, V.dj, V.dt, V.dd]
theorem keys_st (P : Params) (V : StV) (rest : Led) : keys (stL P V rest) = cells V ++ (V.accs.flatMap (fun x => [x.a, x.d, x.sd]) ++ (V.rows.flatMap (fun r => [r.a, r.d]) ++ keys rest)) := by
  rw [← keys_accs P, ← keys_rows P, ← keys_append, ← keys_append]
  rfl
theorem perm_grow {α : Type} (K A R a r t : List α) : (K ++ ((A ++ a) ++ ((R ++ r) ++ t))).Perm ((a ++ r) ++ (K ++ (A ++ (R ++ t)))) := by
  simp only [List.append_assoc]
  have p1 : (R ++ (r ++ t)).Perm (r ++ (R ++ t)) := List.perm_append_comm_assoc ..
  have p2 : (A ++ (a ++ (R ++ (r ++ t)))).Perm (a ++ (A ++ (r ++ (R ++ t)))) := (List.perm_append_comm_assoc ..).trans ((p1.append_left A).append_left a)
  have p3 : (A ++ (r ++ (R ++ t))).Perm (r ++ (A ++ (R ++ t))) := List.perm_append_comm_assoc ..
  have p4 : (K ++ (A ++ (a ++ (R ++ (r ++ t))))).Perm (K ++ (a ++ (r ++ (A ++ (R ++ t))))) := (p2.trans (p3.append_left a)).append_left K
  have p5 : (K ++ (a ++ (r ++ (A ++ (R ++ t))))).Perm (a ++ (K ++ (r ++ (A ++ (R ++ t))))) := List.perm_append_comm_assoc ..
  have p6 : (K ++ (r ++ (A ++ (R ++ t)))).Perm (r ++ (K ++ (A ++ (R ++ t)))) := List.perm_append_comm_assoc ..
  exact p4.trans (p5.trans (p6.append_left a))
theorem grow_ap {P : Params} {V : StV} {rest : Led} {as : List Acc} {rs : List Rw} {tc : List Int} {oa ot : Obj} {nj : Nat} (h : (keys (stL P V rest)).Nodup) (nd : (newA as rs).Nodup) (fr : ∀ a ∈ newA as rs, AllLt a (stL P V rest)) :
    (keys (stL P (V.grow as rs tc oa ot nj) rest)).Nodup := by
  rw [keys_st] at h ⊢
  have e : cells (V.grow as rs tc oa ot nj) = cells V := rfl
  rw [e]
  show (cells V ++ ((V.accs ++ as).flatMap _ ++ ((V.rows ++ rs).flatMap _ ++ keys rest))).Nodup
  rw [List.flatMap_append, List.flatMap_append, (perm_grow _ _ _ _ _ _).nodup_iff]
  refine List.nodup_append.mpr ⟨nd, h, fun a ha b hb => ?_⟩
  have := fr a ha
  rw [← keys_st P] at hb
  obtain ⟨p, hp, rfl⟩ := List.mem_map.mp hb
  exact Nat.ne_of_gt (allLt_mem.mp this p hp)
theorem WF.grow {w : World} {V : StV} {rest : Led} (H : WF w V rest) (as : List Acc) (rs : List Rw) (tc : List Int) (oa ot : Obj) (nj : Nat) (hoa : oa.IsDictOf (PySem.intKind pw w) (accKvs (V.accs ++ as))) (hot : ot.IsDictOf (PySem.intKind pw w) (tchKvs tc))
    (so : ∀ x ∈ as, ∃ t, x.so.IsDictOf (PySem.intKind pw w) (slKvs x.sl t)) (ns : ∀ x ∈ as, (x.sd == sysModules) = false) (sa : V.accs.length + as.length ≤ 1000) (st : tc.length ≤ 1000) (sr : V.rows.length + rs.length ≤ 10000)
    (nd : (newA as rs).Nodup) (fr : ∀ a ∈ newA as rs, AllLt a (stL w.params V rest)) : WF w (V.grow as rs tc oa ot nj) rest where
  oa := hoa
  ot := hot
  od := H.od
  na := H.na
  nt := H.nt
  nd := H.nd
  so := fun x hx => by
    rcases List.mem_append.mp hx with hx | hx
    · exact H.so x hx
    · exact so x hx
  ns := fun x hx => by
    rcases List.mem_append.mp hx with hx | hx
    · exact H.ns x hx
    · exact ns x hx
  sa := by show (V.accs ++ as).length ≤ 1000; rw [List.length_append]; exact sa
  st := st
  sr := by show (V.rows ++ rs).length ≤ 10000; rw [List.length_append]; exact sr
  ap := grow_ap H.ap nd fr
theorem grow_sub {P : Params} {V : StV} {rest news : Led} (as : List Acc) (rs : List Rw) (tc : List Int) (oa ot : Obj) (nj : Nat) (h0 : (V.st, instObj 439 V.ds) ∈ news) (h1 : (V.ds, stO P V) ∈ news) (h2 : (V.da, oa) ∈ news) (h3 : (V.dj, rowsO (V.rows ++ rs) nj) ∈ news) (h4 : (V.dt, ot) ∈ news) (h5 : (V.dd, V.od) ∈ news)
    (h6 : ∀ p ∈ tlL P V.accs V.rows rest, p ∈ news) (ha : ∀ x ∈ as, ∀ p ∈ accL P x, p ∈ news) (hr : ∀ x ∈ rs, ∀ p ∈ rowL P x, p ∈ news) : ∀ p ∈ stL P (V.grow as rs tc oa ot nj) rest, p ∈ news := by
  intro p hp
  unfold stL at hp
  simp only [List.mem_cons] at hp
  rcases hp with rfl | rfl | rfl | rfl | rfl | rfl | hp
  · exact h0
  · exact h1
  · exact h2
  · exact h3
  · exact h4
  · exact h5
  · have hp' : p ∈ (V.accs ++ as).flatMap (accL P) ++ ((V.rows ++ rs).flatMap (rowL P) ++ rest) := hp
    rw [List.flatMap_append, List.flatMap_append] at hp'
    rcases List.mem_append.mp hp' with hp' | hp'
    · rcases List.mem_append.mp hp' with q | q
      · exact h6 p (List.mem_append_left _ q)
      · obtain ⟨x, hx, hq⟩ := List.mem_flatMap.mp q
        exact ha x hx p hq
    · rcases List.mem_append.mp hp' with q | q
      · rcases List.mem_append.mp q with q | q
        · exact h6 p (List.mem_append_right _ (List.mem_append_left _ q))
        · obtain ⟨x, hx, hq⟩ := List.mem_flatMap.mp q
          exact hr x hx p hq
      · exact h6 p (List.mem_append_right _ (List.mem_append_right _ q))
theorem rowsO_push (rows : List Rw) (R : Rw) (nj : Nat) : W.listOf ((rows.map fun r => Value.ref r.a).toArray.push (Value.ref R.a)) (nj + 1) = rowsO (rows ++ [R]) (nj + 1) := by
  unfold rowsO
  rw [List.map_append, List.push_toArray]
  rfl
theorem rowsO_push2 (rows : List Rw) (R R2 : Rw) (nj : Nat) : W.listOf (((rows.map fun r => Value.ref r.a).toArray.push (Value.ref R.a)).push (Value.ref R2.a)) (nj + 1 + 1) = rowsO (rows ++ [R, R2]) (nj + 1 + 1) := by
  unfold rowsO
  rw [List.map_append, List.push_toArray, List.push_toArray, List.append_assoc]
  rfl
theorem accKvs_put {accs : List Acc} {k : Int} {x : Acc} (h : accAt accs k = none) (hk : x.k = k) : stored (accKvs accs) k (.ref x.a) = accKvs (accs ++ [x]) := by
  rw [stored_absent (by rw [valueAt_acc, h]; rfl)]
  unfold accKvs
  rw [List.map_append, ← hk]
  rfl
theorem tchKvs_put {ks : List Int} {k : Int} (h : k ∉ ks) : stored (tchKvs ks) k (.bool true) = tchKvs (ks ++ [k]) := by
  have hv := tch_out h
  rw [stored_absent (by cases e : valueAt (tchKvs ks) k with | none => rfl | some v => rw [e] at hv; cases hv)]
  unfold tchKvs
  rw [List.map_append]
  rfl
inductive Op where
  | made (k : Int)
  | tch (k : Int)
  | bal (k b : Int)
def RowIs (r : Rw) : Op → Prop
  | .made k => r.kind = Str.ofString "made" ∧ r.addr = k
  | .tch k => r.kind = Str.ofString "touched" ∧ r.addr = k
  | .bal k b => r.kind = Str.ofString "balance" ∧ r.addr = k ∧ ∃ t, r.old = .int b t
inductive RowsAre : List Rw → List Op → Prop
  | nil : RowsAre [] []
  | cons {r : Rw} {o : Op} {rs : List Rw} {os : List Op} : RowIs r o → RowsAre rs os → RowsAre (r :: rs) (o :: os)
theorem RowsAre.append {rs rs' : List Rw} {os os' : List Op} (h : RowsAre rs os) (h' : RowsAre rs' os') : RowsAre (rs ++ rs') (os ++ os') := by
  induction h with
  | nil => exact h'
  | cons a _ ih => exact .cons a ih
theorem RowsAre.one {r : Rw} {o : Op} (h : RowIs r o) : RowsAre [r] [o] := .cons h .nil
theorem fresh_all {b : Addr} {P : Params} {V : StV} {rest : Led} {ns : List Addr} (hb : AllLt b (stL P V rest)) (h : ∀ a ∈ ns, @LE.le Nat _ b a) : ∀ a ∈ ns, AllLt a (stL P V rest) := fun a ha => AllLt.up hb (h a ha)
theorem accL_sub {P : Params} {x : Acc} {news : Led} (h1 : (x.a, instObj 154 x.d) ∈ news) (h2 : (x.d, accO P x) ∈ news) (h3 : (x.sd, x.so) ∈ news) : ∀ y ∈ [x], ∀ p ∈ accL P y, p ∈ news := by
  intro y hy p hp
  rw [List.mem_singleton] at hy
  subst hy
  unfold accL at hp
  simp only [List.mem_cons, List.not_mem_nil, or_false] at hp
  rcases hp with rfl | rfl | rfl <;> assumption
theorem rowL_sub {P : Params} {x : Rw} {news : Led} {rs : List Rw} (h1 : (x.a, instObj 196 x.d) ∈ news) (h2 : (x.d, rowO P x) ∈ news) (h3 : ∀ y ∈ rs, ∀ p ∈ rowL P y, p ∈ news) : ∀ y ∈ x :: rs, ∀ p ∈ rowL P y, p ∈ news := by
  intro y hy p hp
  rcases List.mem_cons.mp hy with rfl | hy
  · unfold rowL at hp
    simp only [List.mem_cons, List.not_mem_nil, or_false] at hp
    rcases hp with rfl | rfl <;> assumption
  · exact h3 y hy p hp
theorem nd2 {d e : Nat} (h4 : e < d) : [d, e].Nodup ∧ ∀ z ∈ [d, e], e ≤ z :=
  ndp (List.Perm.swap d e []) (inc_nd (x := e) (l := [d]) ⟨h4, trivial⟩)
theorem nd4 {d e f g : Nat} (h4 : e < d) (h5 : d < g) (h6 : g < f) : [d, e, f, g].Nodup ∧ ∀ z ∈ [d, e, f, g], e ≤ z :=
  ndp ((List.Perm.swap d e []).append (List.Perm.swap f g [])) (inc_nd (x := e) (l := [d, g, f]) ⟨h4, h5, h6, trivial⟩)
theorem nd5 {a b c d e : Nat} (h1 : c < b) (h2 : b < a) (h3 : a < e) (h4 : e < d) : [a, b, c, d, e].Nodup ∧ ∀ z ∈ [a, b, c, d, e], c ≤ z :=
  ndp ((List.reverse_perm [a, b, c]).append (List.Perm.swap d e [])) (inc_nd (x := c) (l := [b, a, e, d]) ⟨h1, h2, h3, h4, trivial⟩)
theorem nd7 {a b c d e f g : Nat} (h1 : c < b) (h2 : b < a) (h3 : a < e) (h4 : e < d) (h5 : d < g) (h6 : g < f) : [a, b, c, d, e, f, g].Nodup ∧ ∀ z ∈ [a, b, c, d, e, f, g], c ≤ z :=
  ndp ((List.reverse_perm [a, b, c]).append ((List.Perm.swap d e []).append (List.Perm.swap f g []))) (inc_nd (x := c) (l := [b, a, e, d, g, f]) ⟨h1, h2, h3, h4, h5, h6, trivial⟩)
theorem so_one {w : World} {x : Acc} (h : x.sl = false) (hs : x.so.IsDictOf (PySem.intKind pw w) []) : ∀ y ∈ [x], ∃ t, y.so.IsDictOf (PySem.intKind pw w) (slKvs y.sl t) := by
  intro y hy
  rw [List.mem_singleton] at hy
  subst hy
  exact ⟨0, by rw [h]; exact hs⟩
theorem ns_one {x : Acc} (h : (x.sd == sysModules) = false) : ∀ y ∈ [x], (y.sd == sysModules) = false := by
  intro y hy
  rw [List.mem_singleton] at hy
  subst hy
  exact h
/-- Row() and no_account() by their contracts, their posts told in pieces -/
theorem row_use {w : World} {hv0 : Option Value} {kind : Str} {addr key : Int} {old : Value} {u1 u2 u3 : Tok} {mean : ExcName → Option Value} {mg mb : Str → Option Value} {dp un : Nat} {gd : Option (List Code)} {cn : Str} {cs : Scope} {a : Addr} {ccd : Value} {cl : List (Str × Addr)} {outer : List Env} {A₀ : Around} {base h₀ : Heap} {L : Addr}
    {m : Str → Option Value} {s : Shared} {Q E : Value → Shared → Prop} {l : Led}
    (B : Below A₀ base outer h₀) (F : Fr h₀ L s.heap m) (X : (Mine.hd.heap_39 w.params).In h₀) (N : News h₀ L s.heap l) (T : Tp mean mg mb h₀) (hk : cs.kind = .function) (hdp : dp + 2 < 600) (hun : un + 20 < 9000)
    (ret : ∀ h' tk' (R : Rw), R.kind = kind → R.addr = addr → R.key = key → R.old = old → @LT.lt Nat _ R.d R.a → AllLt R.d l → Fr h₀ L h' m → News h₀ L h' ((R.a, instObj 196 R.d) :: (R.d, rowO w.params R) :: l) → Q (.ref R.a) { s with heap := h', toks := tk' }) :
    wpAny (model pw w) (atp hv0 dp un gd cn cs L a ccd cl outer) (call (.ref 196) [.str kind u1, .int addr u2, .int key u3, old]) Q E s :=
  Con.use (row_new l kind addr key old u1 u2 u3) B F X N (fun _ hp => hp) T hk hdp hun fun r h' tk' l' F' N' P => by
    obtain ⟨R, rfl, e1, e2, e3, e4, rfl, l1, l2⟩ := P
    exact ret h' tk' R e1 e2 e3 e4 l1 l2 F' N'
theorem acc_use {w : World} {hv0 : Option Value} {mean : ExcName → Option Value} {mg mb : Str → Option Value} {dp un : Nat} {gd : Option (List Code)} {cn : Str} {cs : Scope} {a : Addr} {ccd : Value} {cl : List (Str × Addr)} {outer : List Env} {A₀ : Around} {base h₀ : Heap} {L : Addr}
    {m : Str → Option Value} {s : Shared} {Q E : Value → Shared → Prop} {l : Led}
    (B : Below A₀ base outer h₀) (F : Fr h₀ L s.heap m) (X : (Mine.hd.heap_39 w.params).In h₀) (N : News h₀ L s.heap l) (T : Tp mean mg mb h₀) (hk : cs.kind = .function) (hdp : dp + 4 < 600) (hun : un + 30 < 9000)
    (ret : ∀ h' tk' (x : Acc), x.nonce = 0 → x.bal = 0 → x.code = #[] → x.sl = false → @LT.lt Nat _ x.sd x.d → @LT.lt Nat _ x.d x.a → x.so.IsDictOf (PySem.intKind pw w) [] → (x.sd == sysModules) = false → AllLt x.sd l → Fr h₀ L h' m → News h₀ L h' ((x.a, instObj 154 x.d) :: (x.d, accO w.params x) :: (x.sd, x.so) :: l) → Q (.ref x.a) { s with heap := h', toks := tk' }) :
    wpAny (model pw w) (atp hv0 dp un gd cn cs L a ccd cl outer) (call (.ref 165) []) Q E s :=
  Con.use (acc_new l) B F X N (fun _ hp => hp) T hk hdp hun fun r h' tk' l' F' N' P => by
    obtain ⟨x, rfl, e1, e2, e3, e4, rfl, l1, l2, l3, o1, o2⟩ := P
    exact ret h' tk' x e1 e2 e3 e4 l1 l2 o1 o2 l3 F' N'
theorem rows_2 : True := by
  k_with "DEP" => first | exact Nat.le_of_ble_eq_true rfl | exact bq2 (by assumption) (by rfl) | exact bq1 (by assumption) (by rfl) | exact bq3 (by assumption) (by rfl) | exact bq0 (by assumption) (by rfl) | ((try simp only [weight_make, depth_under_make, depth_under_kw, depth_in1, depth_deeper, depth_caller]); (try dsimp only); omega)
  k_with "UNI" => first | exact Nat.le_of_ble_eq_true rfl | exact bq2 (by assumption) (by rfl) | exact bq1 (by assumption) (by rfl) | exact bq3 (by assumption) (by rfl) | exact bq0 (by assumption) (by rfl) | ((try simp only [cunits_make, units_under_make, units_in1, units_deeper, Around.mark_units, units_caller]); (try dsimp only); omega)
  k_with "LTS" => ((try simp only [AllLt, and_true] at *); (repeat (rename _ ∧ _ => hcj; obtain ⟨_, _⟩ := hcj)))
  k_with "call ref" => (k_here; (with_reducible show wpAny _ _ (call (Value.ref 196) _) _ _ _); k_dflt (refine row_use (by k_asm) (by k_asm) (by k_asm) (by k_asm) (by k_asm) (by first | exact rfl | assumption) (by walk_at "DEP") (by walk_at "UNI") ?_); intro _ _ _ _ _ _ _ _ l1z9 _ _; refine ltk_elim l1z9 ?_; clear l1z9; walk_at "LT2"; (try k_sweep))
  k_with "call ref" => (k_here; (with_reducible show wpAny _ _ (call (Value.ref 165) _) _ _ _); k_dflt (refine acc_use (by k_asm) (by k_asm) (by k_asm) (by k_asm) (by k_asm) (by first | exact rfl | assumption) (by walk_at "DEP") (by walk_at "UNI") ?_); intro _ _ _ _ _ _ _ _ _ _ _ l1z9 _ _; refine ltk_elim l1z9 ?_; clear l1z9; walk_at "LT2"; (try k_sweep))
  trivial
-- PART 9: State.written
def WrPost (w : World) (V : StV) (rest : Led) (k : Int) (r : Value) (l' : Led) : Prop :=
  ∃ (as : List Acc) (rs : List Rw) (tc : List Int) (oa ot : Obj) (nj : Nat) (x : Acc), r = .ref x.a ∧ l' = stL w.params (V.grow as rs tc oa ot nj) rest ∧ WF w (V.grow as rs tc oa ot nj) rest ∧ accAt (V.accs ++ as) k = some x ∧
    ((accAt V.accs k = some x ∧ as = []) ∨ (accAt V.accs k = none ∧ as = [x] ∧ x.nonce = 0 ∧ x.bal = 0 ∧ x.code = #[] ∧ x.sl = false)) ∧
    tc = (if k ∈ V.touched then V.touched else V.touched ++ [k]) ∧ RowsAre rs ((if (accAt V.accs k).isSome then [] else [.made k]) ++ (if k ∈ V.touched then [] else [.tch k])) ∧ as.length ≤ 1 ∧ rs.length ≤ 2
theorem accAt_snoc {accs : List Acc} {k : Int} {x : Acc} (h : accAt accs k = none) (hk : x.k = k) : accAt (accs ++ [x]) k = some x := by
  unfold accAt at h ⊢
  rw [List.find?_append, h]
  simp [hk]
section
variable {w : World} {V : StV} {rest tl : Led} {k : Int} {h₀ h : Heap} {L : Addr} (H : WF w V rest) (ha : V.accs.length ≤ 900) (hb : V.touched.length ≤ 900) (hc : V.rows.length ≤ 9000) (hT : tlL w.params V.accs V.rows rest = tl)
include H ha hb hc hT
theorem wr_new1 {R : Rw} {x0 : Acc} {o1 : Obj} (hx : accAt V.accs k = none) (ht : k ∈ V.touched)
    (N : News h₀ L h ((R.a, instObj 196 R.d) :: (R.d, rowO w.params R) :: (x0.a, instObj 154 x0.d) :: (x0.d, accO w.params x0) :: (x0.sd, x0.so) :: (V.st, instObj 439 V.ds) :: (V.ds, stO w.params V) :: (V.da, o1) :: (V.dj, W.listOf ((V.rows.map fun r => Value.ref r.a).toArray.push (Value.ref R.a)) (V.nj + 1)) :: (V.dt, V.ot) :: (V.dd, V.od) :: tl))
    (hd1 : o1.IsDictOf (PySem.intKind pw w) (stored (accKvs V.accs) k (.ref x0.a))) (hs : x0.so.IsDictOf (PySem.intKind pw w) []) (hns : (x0.sd == sysModules) = false) (e1 : x0.nonce = 0) (e2 : x0.bal = 0) (e3 : x0.code = #[]) (e4 : x0.sl = false)
    (r1 : R.kind = Str.ofString "made") (r2 : R.addr = k) (l1 : @LT.lt Nat _ x0.sd x0.d) (l2 : @LT.lt Nat _ x0.d x0.a) (l3 : @LT.lt Nat _ x0.a R.d) (l4 : @LT.lt Nat _ R.d R.a)
    (b0 : @LT.lt Nat _ V.st x0.sd) (b1 : @LT.lt Nat _ V.ds x0.sd) (b2 : @LT.lt Nat _ V.da x0.sd) (b3 : @LT.lt Nat _ V.dj x0.sd) (b4 : @LT.lt Nat _ V.dt x0.sd) (b5 : @LT.lt Nat _ V.dd x0.sd) (b6 : AllLt x0.sd tl) : ∃ l', News h₀ L h l' ∧ WrPost w V rest k (.ref x0.a) l' := by
  rw [rowsO_push] at N
  have hd2 : o1.IsDictOf (PySem.intKind pw w) (accKvs (V.accs ++ [{ x0 with k := k }])) := by rw [← accKvs_put (x := { x0 with k := k }) hx rfl]; exact hd1
  have hnd : (newA [{ x0 with k := k }] [R]).Nodup ∧ ∀ z ∈ newA [{ x0 with k := k }] [R], @LE.le Nat _ x0.sd z := nd5 l1 l2 l3 l4
  refine ⟨_, News.sub N (grow_sub [{ x0 with k := k }] [R] V.touched o1 V.ot (V.nj + 1) (by repeat first | exact .head _ | apply List.Mem.tail) (by repeat first | exact .head _ | apply List.Mem.tail) (by repeat first | exact .head _ | apply List.Mem.tail) (by repeat first | exact .head _ | apply List.Mem.tail) (by repeat first | exact .head _ | apply List.Mem.tail) (by repeat first | exact .head _ | apply List.Mem.tail) (fun p hp => (by rw [hT] at hp; repeat first | exact hp | apply List.Mem.tail)) (accL_sub (by repeat first | exact .head _ | apply List.Mem.tail) (by repeat first | exact .head _ | apply List.Mem.tail) (by repeat first | exact .head _ | apply List.Mem.tail)) (rowL_sub (by repeat first | exact .head _ | apply List.Mem.tail) (by repeat first | exact .head _ | apply List.Mem.tail) (fun _ h => nomatch h))),
    [{ x0 with k := k }], [R], V.touched, o1, V.ot, V.nj + 1, { x0 with k := k }, rfl, rfl, H.grow _ _ _ _ _ _ hd2 H.ot (so_one e4 hs) (ns_one hns) (by show V.accs.length + 1 ≤ 1000; omega) (by omega) (by show V.rows.length + 1 ≤ 10000; omega) hnd.1 (fresh_all (b := x0.sd) (allLt_st b0 b1 b2 b3 b4 b5 (by rw [hT]; assumption)) hnd.2), accAt_snoc hx rfl, .inr ⟨hx, rfl, e1, e2, e3, e4⟩, by rw [if_pos ht], ?_, Nat.le_refl _, Nat.le_succ _⟩
  rw [if_pos ht, hx]
  exact .cons ⟨r1, r2⟩ .nil
theorem wr_new2 {R R2 : Rw} {x0 : Acc} {o1 o2 : Obj} (hx : accAt V.accs k = none) (ht : k ∉ V.touched)
    (N : News h₀ L h ((R2.a, instObj 196 R2.d) :: (R2.d, rowO w.params R2) :: (R.a, instObj 196 R.d) :: (R.d, rowO w.params R) :: (x0.a, instObj 154 x0.d) :: (x0.d, accO w.params x0) :: (x0.sd, x0.so) :: (V.st, instObj 439 V.ds) :: (V.ds, stO w.params V) :: (V.da, o1) :: (V.dj, W.listOf (((V.rows.map fun r => Value.ref r.a).toArray.push (Value.ref R.a)).push (Value.ref R2.a)) (V.nj + 1 + 1)) :: (V.dt, o2) :: (V.dd, V.od) :: tl))
    (hd1 : o1.IsDictOf (PySem.intKind pw w) (stored (accKvs V.accs) k (.ref x0.a))) (hd3 : o2.IsDictOf (PySem.intKind pw w) (stored (tchKvs V.touched) k (.bool true))) (hs : x0.so.IsDictOf (PySem.intKind pw w) []) (hns : (x0.sd == sysModules) = false) (e1 : x0.nonce = 0) (e2 : x0.bal = 0) (e3 : x0.code = #[]) (e4 : x0.sl = false)
    (r1 : R.kind = Str.ofString "made") (r2 : R.addr = k) (r3 : R2.kind = Str.ofString "touched") (r4 : R2.addr = k) (l1 : @LT.lt Nat _ x0.sd x0.d) (l2 : @LT.lt Nat _ x0.d x0.a) (l3 : @LT.lt Nat _ x0.a R.d) (l4 : @LT.lt Nat _ R.d R.a) (l5 : @LT.lt Nat _ R.a R2.d) (l6 : @LT.lt Nat _ R2.d R2.a)
    (b0 : @LT.lt Nat _ V.st x0.sd) (b1 : @LT.lt Nat _ V.ds x0.sd) (b2 : @LT.lt Nat _ V.da x0.sd) (b3 : @LT.lt Nat _ V.dj x0.sd) (b4 : @LT.lt Nat _ V.dt x0.sd) (b5 : @LT.lt Nat _ V.dd x0.sd) (b6 : AllLt x0.sd tl) : ∃ l', News h₀ L h l' ∧ WrPost w V rest k (.ref x0.a) l' := by
  rw [rowsO_push2] at N
  have hd2 : o1.IsDictOf (PySem.intKind pw w) (accKvs (V.accs ++ [{ x0 with k := k }])) := by rw [← accKvs_put (x := { x0 with k := k }) hx rfl]; exact hd1
  have hd4 : o2.IsDictOf (PySem.intKind pw w) (tchKvs (V.touched ++ [k])) := by rw [← tchKvs_put ht]; exact hd3
  have hnd : (newA [{ x0 with k := k }] [R, R2]).Nodup ∧ ∀ z ∈ newA [{ x0 with k := k }] [R, R2], @LE.le Nat _ x0.sd z := nd7 l1 l2 l3 l4 l5 l6
  refine ⟨_, News.sub N (grow_sub [{ x0 with k := k }] [R, R2] (V.touched ++ [k]) o1 o2 (V.nj + 1 + 1) (by repeat first | exact .head _ | apply List.Mem.tail) (by repeat first | exact .head _ | apply List.Mem.tail) (by repeat first | exact .head _ | apply List.Mem.tail) (by repeat first | exact .head _ | apply List.Mem.tail) (by repeat first | exact .head _ | apply List.Mem.tail) (by repeat first | exact .head _ | apply List.Mem.tail) (fun p hp => (by rw [hT] at hp; repeat first | exact hp | apply List.Mem.tail)) (accL_sub (by repeat first | exact .head _ | apply List.Mem.tail) (by repeat first | exact .head _ | apply List.Mem.tail) (by repeat first | exact .head _ | apply List.Mem.tail)) (rowL_sub (by repeat first | exact .head _ | apply List.Mem.tail) (by repeat first | exact .head _ | apply List.Mem.tail) (rowL_sub (by repeat first | exact .head _ | apply List.Mem.tail) (by repeat first | exact .head _ | apply List.Mem.tail) (fun _ h => nomatch h)))),
    [{ x0 with k := k }], [R, R2], V.touched ++ [k], o1, o2, V.nj + 1 + 1, { x0 with k := k }, rfl, rfl, H.grow _ _ _ _ _ _ hd2 hd4 (so_one e4 hs) (ns_one hns) (by show V.accs.length + 1 ≤ 1000; omega) (by rw [List.length_append]; show V.touched.length + 1 ≤ 1000; omega) (by show V.rows.length + 2 ≤ 10000; omega) hnd.1 (fresh_all (b := x0.sd) (allLt_st b0 b1 b2 b3 b4 b5 (by rw [hT]; assumption)) hnd.2), accAt_snoc hx rfl, .inr ⟨hx, rfl, e1, e2, e3, e4⟩, by rw [if_neg ht], ?_, Nat.le_refl _, Nat.le_refl _⟩
  rw [if_neg ht, hx]
  exact .cons ⟨r1, r2⟩ (.cons ⟨r3, r4⟩ .nil)
theorem wr_old1 {x : Acc} (hx : accAt V.accs k = some x) (ht : k ∈ V.touched)
    (N : News h₀ L h ((V.st, instObj 439 V.ds) :: (V.ds, stO w.params V) :: (V.da, V.oa) :: (V.dj, W.listOf (V.rows.map fun r => Value.ref r.a).toArray V.nj) :: (V.dt, V.ot) :: (V.dd, V.od) :: tl)) : ∃ l', News h₀ L h l' ∧ WrPost w V rest k (.ref x.a) l' := by
  have hd2 : V.oa.IsDictOf (PySem.intKind pw w) (accKvs (V.accs ++ [])) := by rw [List.append_nil]; exact H.oa
  have hx2 : accAt (V.accs ++ []) k = some x := by rw [List.append_nil]; exact hx
  have hrow : W.listOf (V.rows.map fun r => Value.ref r.a).toArray V.nj = rowsO (V.rows ++ []) V.nj := by rw [List.append_nil]; rfl
  rw [hrow] at N
  refine ⟨_, News.sub N (grow_sub [] [] V.touched V.oa V.ot V.nj (by repeat first | exact .head _ | apply List.Mem.tail) (by repeat first | exact .head _ | apply List.Mem.tail) (by repeat first | exact .head _ | apply List.Mem.tail) (by repeat first | exact .head _ | apply List.Mem.tail) (by repeat first | exact .head _ | apply List.Mem.tail) (by repeat first | exact .head _ | apply List.Mem.tail) (fun p hp => (by rw [hT] at hp; repeat first | exact hp | apply List.Mem.tail)) (fun _ h => nomatch h) (fun _ h => nomatch h)),
    [], [], V.touched, V.oa, V.ot, V.nj, x, rfl, rfl, H.grow _ _ _ _ _ _ hd2 H.ot (fun _ h => nomatch h) (fun _ h => nomatch h) (by show V.accs.length + 0 ≤ 1000; omega) (by omega) (by show V.rows.length + 0 ≤ 10000; omega) List.nodup_nil (fun _ h => nomatch h), hx2, .inl ⟨hx, rfl⟩, by rw [if_pos ht], ?_, by decide, by decide⟩
  rw [if_pos ht, hx]
  exact .nil
theorem wr_old2 {x : Acc} {R : Rw} {o2 : Obj} (hx : accAt V.accs k = some x) (ht : k ∉ V.touched)
    (N : News h₀ L h ((R.a, instObj 196 R.d) :: (R.d, rowO w.params R) :: (V.st, instObj 439 V.ds) :: (V.ds, stO w.params V) :: (V.da, V.oa) :: (V.dj, W.listOf ((V.rows.map fun r => Value.ref r.a).toArray.push (Value.ref R.a)) (V.nj + 1)) :: (V.dt, o2) :: (V.dd, V.od) :: tl))
    (hd3 : o2.IsDictOf (PySem.intKind pw w) (stored (tchKvs V.touched) k (.bool true))) (r3 : R.kind = Str.ofString "touched") (r4 : R.addr = k) (l6 : @LT.lt Nat _ R.d R.a)
    (b0 : @LT.lt Nat _ V.st R.d) (b1 : @LT.lt Nat _ V.ds R.d) (b2 : @LT.lt Nat _ V.da R.d) (b3 : @LT.lt Nat _ V.dj R.d) (b4 : @LT.lt Nat _ V.dt R.d) (b5 : @LT.lt Nat _ V.dd R.d) (b6 : AllLt R.d tl) : ∃ l', News h₀ L h l' ∧ WrPost w V rest k (.ref x.a) l' := by
  have hd2 : V.oa.IsDictOf (PySem.intKind pw w) (accKvs (V.accs ++ [])) := by rw [List.append_nil]; exact H.oa
  have hx2 : accAt (V.accs ++ []) k = some x := by rw [List.append_nil]; exact hx
  rw [rowsO_push] at N
  have hd4 : o2.IsDictOf (PySem.intKind pw w) (tchKvs (V.touched ++ [k])) := by rw [← tchKvs_put ht]; exact hd3
  have hnd : (newA [] [R]).Nodup ∧ ∀ z ∈ newA [] [R], @LE.le Nat _ R.d z := nd2 l6
  refine ⟨_, News.sub N (grow_sub [] [R] (V.touched ++ [k]) V.oa o2 (V.nj + 1) (by repeat first | exact .head _ | apply List.Mem.tail) (by repeat first | exact .head _ | apply List.Mem.tail) (by repeat first | exact .head _ | apply List.Mem.tail) (by repeat first | exact .head _ | apply List.Mem.tail) (by repeat first | exact .head _ | apply List.Mem.tail) (by repeat first | exact .head _ | apply List.Mem.tail) (fun p hp => (by rw [hT] at hp; repeat first | exact hp | apply List.Mem.tail)) (fun _ h => nomatch h) (rowL_sub (by repeat first | exact .head _ | apply List.Mem.tail) (by repeat first | exact .head _ | apply List.Mem.tail) (fun _ h => nomatch h))),
    [], [R], V.touched ++ [k], V.oa, o2, V.nj + 1, x, rfl, rfl, H.grow _ _ _ _ _ _ hd2 hd4 (fun _ h => nomatch h) (fun _ h => nomatch h) (by show V.accs.length + 0 ≤ 1000; omega) (by rw [List.length_append]; show V.touched.length + 1 ≤ 1000; omega) (by show V.rows.length + 1 ≤ 10000; omega) hnd.1 (fresh_all (b := R.d) (allLt_st b0 b1 b2 b3 b4 b5 (by rw [hT]; assumption)) hnd.2), hx2, .inl ⟨hx, rfl⟩, by rw [if_neg ht], ?_, by decide, Nat.le_succ _⟩
  rw [if_neg ht, hx]
  exact .cons ⟨r3, r4⟩ .nil
end
set_option maxHeartbeats 16000000 in
theorem written_con {w : World} {hv0 : Option Value} (V : StV) (rest : Led) (H : WF w V rest) (k : Int) (t : Tok) (ha : V.accs.length ≤ 900) (hb : V.touched.length ≤ 900) (hc : V.rows.length ≤ 9000) :
    Con w hv0 254 [.ref V.st, .int k t] 10 100 (stL w.params V rest) (WrPost w V rest k) := by
  intro mean mg mb dp un gd cn cs a ccd cl outer A₀ base h₀ L m s Q E B F X N T hk hd hu ret
  have hoa := H.oa
  have hna := H.na
  have hot := H.ot
  have hnt := H.nt
  have hv := valueAt_acc V.accs k
  obtain ⟨c01, c02, c03, c04, c05, c12, c13, c14, c15, c23, c24, c25, c34, c35, c45, z0, z1, z2, z3, z4, z5⟩ := ap_of H.ap
  have hsz := H.sz
  have hszt := H.szt
  have hszr := H.sr
  unfold stL at N
  unfold rowsO at N
  generalize hT : tlL w.params V.accs V.rows rest = tl at N z0 z1 z2 z3 z4 z5
  cases hx : accAt V.accs k with
  | none =>
    rw [hx] at hv
    have hv2 : (valueAt (accKvs V.accs) k).isSome = false := by rw [hv]; rfl
    by_cases ht : k ∈ V.touched
    · have ht2 := tch_in ht
      k_dflt ktr_enter
      k_steps
      obtain ⟨l', N9, P9⟩ := wr_new1 H ha hb hc hT hx ht (by k_asm) (by assumption) (by assumption) (by assumption) (by assumption) (by assumption) (by assumption) (by assumption) (by assumption) (by assumption) (by assumption) (by assumption) (by assumption) (by assumption) (by assumption) (by assumption) (by assumption) (by assumption) (by assumption) (by assumption) (by assumption)
      exact ret _ _ _ l' (by k_asm) N9 P9
    · have ht2 := tch_out ht
      k_dflt ktr_enter
      k_steps
      obtain ⟨l', N9, P9⟩ := wr_new2 H ha hb hc hT hx ht (by k_asm) (by assumption) (by assumption) (by assumption) (by assumption) (by assumption) (by assumption) (by assumption) (by assumption) (by assumption) (by assumption) (by assumption) (by assumption) (by assumption) (by assumption) (by assumption) (by assumption) (by assumption) (by assumption) (by assumption) (by assumption) (by assumption) (by assumption) (by assumption) (by assumption) (by assumption)
      exact ret _ _ _ l' (by k_asm) N9 P9
  | some x =>
    rw [hx] at hv
    simp only [Option.map_some] at hv
    have hv2 : (valueAt (accKvs V.accs) k).isSome = true := by rw [hv]; rfl
    by_cases ht : k ∈ V.touched
    · have ht2 := tch_in ht
      k_dflt ktr_enter
      k_steps
      obtain ⟨l', N9, P9⟩ := wr_old1 H ha hb hc hT hx ht (by k_asm)
      exact ret _ _ _ l' (by k_asm) N9 P9
    · have ht2 := tch_out ht
      k_dflt ktr_enter
      k_steps
      obtain ⟨l', N9, P9⟩ := wr_old2 H ha hb hc hT hx ht (by k_asm) (by assumption) (by assumption) (by assumption) (by assumption) (by assumption) (by assumption) (by assumption) (by assumption) (by assumption) (by assumption) (by assumption)
      exact ret _ _ _ l' (by k_asm) N9 P9
-- PART 10: one account pulled out of the tail
def stP (P : Params) (V : StV) (A : List Acc) (x : Acc) (B : List Acc) (rest : Led) : Led :=
  (V.st, instObj 439 V.ds) :: (V.ds, stO P V) :: (V.da, V.oa) :: (V.dj, rowsO V.rows V.nj) :: (V.dt, V.ot) :: (V.dd, V.od) :: (x.a, instObj 154 x.d) :: (x.d, accO P x) :: (x.sd, x.so) :: tlL P (A ++ B) V.rows rest
theorem tl_pull {P : Params} {A B : List Acc} {x : Acc} {rows : List Rw} {rest : Led} {p : Addr × Obj} : p ∈ tlL P (A ++ x :: B) rows rest ↔ p ∈ (x.a, instObj 154 x.d) :: (x.d, accO P x) :: (x.sd, x.so) :: tlL P (A ++ B) rows rest := by
  unfold tlL
  rw [List.flatMap_append, List.flatMap_append, List.flatMap_cons, List.append_assoc, List.append_assoc, List.append_assoc]
  exact (List.perm_append_comm_assoc _ (accL P x) _).mem_iff
structure ApX (V : StV) (x : Acc) (tl : Led) : Prop where
  ad : @Ne Nat x.a x.d
  sd : @Ne Nat x.sd x.d
  d0 : @Ne Nat x.d V.st
  d1 : @Ne Nat x.d V.ds
  d2 : @Ne Nat x.d V.da
  d3 : @Ne Nat x.d V.dj
  d4 : @Ne Nat x.d V.dt
  d5 : @Ne Nat x.d V.dd
  a3 : @Ne Nat x.a V.dj
  s3 : @Ne Nat x.sd V.dj
  td : ∀ p ∈ tl, p.1 ≠ x.d
theorem apx_of {P : Params} {V : StV} {A B : List Acc} {x : Acc} {rest : Led} (hV : V.accs = A ++ x :: B) (h : (keys (stL P V rest)).Nodup) : ApX V x (tlL P (A ++ B) V.rows rest) := by
  have z := ap_of h
  rw [hV] at z
  have ma : (x.a, instObj 154 x.d) ∈ tlL P (A ++ x :: B) V.rows rest := tl_pull.mpr (by simp)
  have md : (x.d, accO P x) ∈ tlL P (A ++ x :: B) V.rows rest := tl_pull.mpr (by simp)
  have ms : (x.sd, x.so) ∈ tlL P (A ++ x :: B) V.rows rest := tl_pull.mpr (by simp)
  rw [keys_st, hV, List.nodup_append] at h
  obtain ⟨-, h, -⟩ := h
  rw [List.flatMap_append, List.flatMap_cons] at h
  have pm : (A.flatMap (fun x => [x.a, x.d, x.sd]) ++ ([x.a, x.d, x.sd] ++ B.flatMap (fun x => [x.a, x.d, x.sd])) ++ (V.rows.flatMap (fun r => [r.a, r.d]) ++ keys rest)).Perm ([x.a, x.d, x.sd] ++ keys (tlL P (A ++ B) V.rows rest)) := by
    unfold tlL
    rw [keys_append, keys_append, keys_accs, keys_rows, List.flatMap_append]
    simp only [List.append_assoc]
    exact List.perm_append_comm_assoc ..
  rw [pm.nodup_iff, List.nodup_append] at h
  obtain ⟨h1, -, h2⟩ := h
  simp only [List.nodup_cons, List.mem_cons, List.not_mem_nil, or_false, not_or] at h1
  refine ⟨h1.1.1, fun e => h1.2.1 e.symm, z.t0 _ md, z.t1 _ md, z.t2 _ md, z.t3 _ md, z.t4 _ md, z.t5 _ md, z.t3 _ ma, z.t3 _ ms, fun p hp e => ?_⟩
  exact h2 x.d (by simp) p.1 (List.mem_map_of_mem hp) e.symm
theorem acc_split {accs : List Acc} {k : Int} {x : Acc} (h : accAt accs k = some x) : ∃ A B, accs = A ++ x :: B := List.append_of_mem (accAt_mem h).1

theorem Con.mono {w : World} {hd : Option Value} {f : Addr} {args : List Value} {D U : Nat} {l : Led} {Post Post' : Value → Led → Prop} (C : Con w hd f args D U l Post) (h : ∀ r l', Post r l' → ∃ l'', (∀ p ∈ l'', p ∈ l') ∧ Post' r l'') : Con w hd f args D U l Post' := by
  unfold Con at C ⊢
  intro mean mg mb dp un gd cn cs a ccd cl outer A₀ base h₀ L m s Q E B F X N T hk hdp hun ret
  refine C mean mg mb dp un gd cn cs a ccd cl outer A₀ base h₀ L m s Q E B F X N T hk hdp hun (fun r h' tk' l' F' N' P' => ?_)
  obtain ⟨l'', hs, P''⟩ := h r l' P'
  exact ret r h' tk' l'' F' (News.sub N' hs) P''

/-- what set_balance, set_nonce, set_code have behind written -/
structure Wr2 (w : World) (V : StV) (rest : Led) (k : Int) (r : Value) (l' : Led) (V1 : StV) (A B : List Acc) (x : Acc) : Prop where
  ex : ∃ as rs tc oa ot nj, V1 = V.grow as rs tc oa ot nj ∧ as.length ≤ 1 ∧ rs.length ≤ 2 ∧
    ((accAt V.accs k = some x ∧ as = []) ∨ (accAt V.accs k = none ∧ as = [x] ∧ x.nonce = 0 ∧ x.bal = 0 ∧ x.code = #[] ∧ x.sl = false)) ∧
    tc = (if k ∈ V.touched then V.touched else V.touched ++ [k]) ∧ RowsAre rs ((if (accAt V.accs k).isSome then [] else [.made k]) ++ (if k ∈ V.touched then [] else [.tch k]))
  r : r = .ref x.a
  l : l' = stP w.params V1 A x B rest
  wf : WF w V1 rest
  at_ : accAt V1.accs k = some x
  sp : V1.accs = A ++ x :: B
theorem written_con2 {w : World} {hv0 : Option Value} (V : StV) (rest : Led) (H : WF w V rest) (k : Int) (t : Tok) (ha : V.accs.length ≤ 900) (hb : V.touched.length ≤ 900) (hc : V.rows.length ≤ 9000) :
    Con w hv0 254 [.ref V.st, .int k t] 10 100 (stL w.params V rest) (fun r l' => ∃ V1 A B x, Wr2 w V rest k r l' V1 A B x) := by
  refine Con.mono (written_con V rest H k t ha hb hc) ?_
  rintro r l' ⟨as, rs, tc, oa, ot, nj, x, rfl, rfl, hW, hat, h1, h2, h3, h4, h5⟩
  obtain ⟨A, B, hs⟩ := acc_split hat
  refine ⟨stP w.params (V.grow as rs tc oa ot nj) A x B rest, fun p hp => ?_, V.grow as rs tc oa ot nj, A, B, x, ⟨as, rs, tc, oa, ot, nj, rfl, h4, h5, h1, h2, h3⟩, rfl, rfl, hW, hat, hs⟩
  unfold stP at hp
  unfold stL
  have hs' : (V.grow as rs tc oa ot nj).accs = A ++ x :: B := hs
  rw [hs']
  simp only [List.mem_cons] at hp ⊢
  have q := @tl_pull w.params A B x (V.grow as rs tc oa ot nj).rows rest p
  simp only [List.mem_cons] at q
  rcases hp with h | h | h | h | h | h | h | h | h | h
  · exact .inl h
  · exact .inr (.inl h)
  · exact .inr (.inr (.inl h))
  · exact .inr (.inr (.inr (.inl h)))
  · exact .inr (.inr (.inr (.inr (.inl h))))
  · exact .inr (.inr (.inr (.inr (.inr (.inl h)))))
  all_goals exact .inr (.inr (.inr (.inr (.inr (.inr (q.mpr (by simp [h])))))))
theorem wr2_el {w : World} {V : StV} {rest : Led} {k : Int} (M : Value → Led → Prop) (h : ∀ V1 A B x l', Wr2 w V rest k (.ref x.a) l' V1 A B x → M (.ref x.a) l') : ∀ r l', (∃ V1 A B x, Wr2 w V rest k r l' V1 A B x) → M r l' := by
  rintro r l' ⟨V1, A, B, x, W⟩
  have e := W.r
  subst e
  exact h V1 A B x l' W
-- PART 11: set_balance, set_nonce, set_code
structure Ct where
  nonce : Int
  bal : Int
  code : Array UInt8
  sl : Bool
def Acc.ct (x : Acc) : Ct := ⟨x.nonce, x.bal, x.code, x.sl⟩
def noCt : Ct := ⟨0, 0, #[], false⟩
def cont (accs : List Acc) : List (Int × Ct) := accs.map fun x => (x.k, x.ct)
def ctAt (cs : List (Int × Ct)) (k : Int) : Option Ct := (cs.find? fun x => x.1 = k).map (·.2)
def updC (cs : List (Int × Ct)) (k : Int) (f : Ct → Ct) : List (Int × Ct) := if (ctAt cs k).isSome then cs.map (fun x => if x.1 = k then (k, f x.2) else x) else cs ++ [(k, f noCt)]
def tchd (ks : List Int) (k : Int) : List Int := if k ∈ ks then ks else ks ++ [k]
def opsOf (accs : List Acc) (ts : List Int) (k : Int) (o : Option Op) : List Op := (if (accAt accs k).isSome then [] else [.made k]) ++ (if k ∈ ts then [] else [.tch k]) ++ o.toList
theorem ctAt_cont (accs : List Acc) (k : Int) : ctAt (cont accs) k = (accAt accs k).map Acc.ct := by
  unfold ctAt cont accAt
  rw [List.find?_map]
  have e : ((fun x : Int × Ct => decide (x.1 = k)) ∘ fun x : Acc => (x.k, x.ct)) = fun x : Acc => decide (x.k = k) := rfl
  rw [e]
  cases List.find? (fun x : Acc => decide (x.k = k)) accs <;> rfl
def StV.put (V : StV) (accs : List Acc) (ts : List Int) (rows : List Rw) (oa ot : Obj) (nj : Nat) : StV := { V with accs := accs, touched := ts, rows := rows, oa := oa, ot := ot, nj := nj }
/-- the rows that a change lays: the last one by its kind, any where no op tells it -/
def RowsBut : List Rw → List Op → Bool → Prop
  | rs, os, true => RowsAre rs os
  | _, _, false => True
def UpPost (w : World) (V : StV) (rest : Led) (k : Int) (f : Ct → Ct) (o : Option Op) (r : Value) (l' : Led) : Prop :=
  ∃ accs rs oa ot nj, r = .none ∧ l' = stL w.params (V.put accs (tchd V.touched k) (V.rows ++ rs) oa ot nj) rest ∧ WF w (V.put accs (tchd V.touched k) (V.rows ++ rs) oa ot nj) rest ∧
    cont accs = updC (cont V.accs) k f ∧ rs.length ≤ 3 ∧ RowsBut rs (opsOf V.accs V.touched k o) o.isSome
theorem keys_mid {α : Type} {A B : List Acc} {x x' : Acc} {f : Acc → α} (h : f x' = f x) : (A ++ x' :: B).map f = (A ++ x :: B).map f := by
  rw [List.map_append, List.map_append, List.map_cons, List.map_cons, h]
theorem WF.chg {w : World} {V : StV} {rest : Led} (H : WF w V rest) {A B : List Acc} {x x' : Acc} (hV : V.accs = A ++ x :: B) (e1 : x'.k = x.k) (e2 : x'.a = x.a) (e3 : x'.d = x.d) (e4 : x'.sd = x.sd) (e5 : ∃ t, x'.so.IsDictOf (PySem.intKind pw w) (slKvs x'.sl t)) : WF w { V with accs := A ++ x' :: B } rest where
  oa := by
    have h := H.oa
    have e : accKvs (A ++ x' :: B) = accKvs V.accs := by
      unfold accKvs; rw [hV]; exact keys_mid (by rw [e1, e2])
    rw [← e] at h
    exact h
  ot := H.ot
  od := H.od
  na := H.na
  nt := H.nt
  nd := H.nd
  so := fun y hy => by
    rcases List.mem_append.mp hy with h | h
    · exact H.so y (by rw [hV]; exact List.mem_append_left _ h)
    · rcases List.mem_cons.mp h with rfl | h
      · exact e5
      · exact H.so y (by rw [hV]; exact List.mem_append_right _ (List.mem_cons_of_mem _ h))
  ns := fun y hy => by
    rcases List.mem_append.mp hy with h | h
    · exact H.ns y (by rw [hV]; exact List.mem_append_left _ h)
    · rcases List.mem_cons.mp h with rfl | h
      · rw [e4]; exact H.ns x (by rw [hV]; exact List.mem_append_right _ List.mem_cons_self)
      · exact H.ns y (by rw [hV]; exact List.mem_append_right _ (List.mem_cons_of_mem _ h))
  sa := by
    have h := H.sa
    rw [hV] at h
    show (A ++ x' :: B).length ≤ 1000
    simp only [List.length_append, List.length_cons] at h ⊢
    exact h
  st := H.st
  sr := H.sr
  ap := by
    have h := H.ap
    rw [keys_st] at h ⊢
    have e : (A ++ x' :: B).flatMap (fun x => [x.a, x.d, x.sd]) = V.accs.flatMap fun x => [x.a, x.d, x.sd] := by
      rw [hV, List.flatMap_append, List.flatMap_append, List.flatMap_cons, List.flatMap_cons, e2, e3, e4]
    show (cells V ++ ((A ++ x' :: B).flatMap _ ++ _)).Nodup
    rw [e]
    exact h
theorem updC_mid {A B : List Acc} {x x' : Acc} {k : Int} {f : Ct → Ct} (hk : x.k = k) (hk' : x'.k = k) (hc : x'.ct = f x.ct) (hd : ((A ++ x :: B).map (·.k)).Nodup) : cont (A ++ x' :: B) = (cont (A ++ x :: B)).map (fun z => if z.1 = k then (k, f z.2) else z) := by
  have hne : ∀ C : List Acc, (∀ z ∈ C, z.k ≠ k) → C.map (fun x => (x.k, x.ct)) = (C.map fun x => (x.k, x.ct)).map fun z => if z.1 = k then (k, f z.2) else z := by
    intro C hC
    rw [List.map_map]
    exact List.map_congr_left fun z hz => by simp [hC z hz]
  rw [List.map_append, List.map_cons, List.nodup_append, List.nodup_cons] at hd
  obtain ⟨-, ⟨hB, -⟩, hA⟩ := hd
  unfold cont
  rw [List.map_append, List.map_append, List.map_cons, List.map_cons, List.map_append, List.map_cons]
  rw [← hne A (fun z hz e => hA z.k (List.mem_map_of_mem hz) x.k (by simp) (by rw [e, hk])), ← hne B (fun z hz e => hB (List.mem_map.mpr ⟨z, hz, by rw [e, hk]⟩))]
  simp [hk, hk', hc]
theorem kvs_nodup {prog : Program} {w : World} {o : Obj} {kvs : List (Int × Value)} (h : o.IsDictOf (PySem.intKind prog w) kvs) : (kvs.map (·.1)).Nodup := h.choose_spec.choose_spec.2.2.2.2
theorem Wr2.led {w : World} {V V1 : StV} {rest l' : Led} {k : Int} {r : Value} {A B : List Acc} {x : Acc} (W : Wr2 w V rest k r l' V1 A B x) :
    l' = (V.st, instObj 439 V.ds) :: (V.ds, stO w.params V) :: (V.da, V1.oa) :: (V.dj, PySem.W.listOf (V1.rows.map fun r => Value.ref r.a).toArray V1.nj) :: (V.dt, V1.ot) :: (V.dd, V.od) :: (x.a, instObj 154 x.d) :: (x.d, accO w.params x) :: (x.sd, x.so) :: tlL w.params (A ++ B) V1.rows rest := by
  obtain ⟨as, rs, tc, oa, ot, nj, rfl, -⟩ := W.ex
  exact W.l
theorem Wr2.apx {w : World} {V V1 : StV} {rest l' : Led} {k : Int} {r : Value} {A B : List Acc} {x : Acc} (W : Wr2 w V rest k r l' V1 A B x) :
    Ap V (tlL w.params (A ++ B) V1.rows rest) ∧ ApX V x (tlL w.params (A ++ B) V1.rows rest) := by
  have a := ap_of W.wf.ap
  have b := apx_of W.sp W.wf.ap
  have e := W.sp
  have ts : ∀ p ∈ tlL w.params (A ++ B) V1.rows rest, p ∈ tlL w.params V1.accs V1.rows rest := fun p hp => by
    rw [e]; exact tl_pull.mpr (by simp [hp])
  obtain ⟨as, rs, tc, oa, ot, nj, rfl, -⟩ := W.ex
  exact ⟨⟨a.c01, a.c02, a.c03, a.c04, a.c05, a.c12, a.c13, a.c14, a.c15, a.c23, a.c24, a.c25, a.c34, a.c35, a.c45, fun p hp => a.t0 p (ts p hp), fun p hp => a.t1 p (ts p hp), fun p hp => a.t2 p (ts p hp), fun p hp => a.t3 p (ts p hp), fun p hp => a.t4 p (ts p hp), fun p hp => a.t5 p (ts p hp)⟩, ⟨b.ad, b.sd, b.d0, b.d1, b.d2, b.d3, b.d4, b.d5, b.a3, b.s3, b.td⟩⟩
theorem keys_nd {w : World} {V : StV} {rest : Led} (H : WF w V rest) : (V.accs.map (·.k)).Nodup := by
  have h := kvs_nodup H.oa
  unfold accKvs at h
  rw [List.map_map] at h
  exact h
theorem st_upd {w : World} {V V1 : StV} {rest l' tl : Led} {k : Int} {r : Value} {A B : List Acc} {x x' : Acc} {R : Rw} {f : Ct → Ct} {o : Option Op} {h₀ h : Heap} {L : Addr} (H : WF w V rest) (W : Wr2 w V rest k r l' V1 A B x) (ha : V.accs.length ≤ 900) (hc : V.rows.length ≤ 9000) (hT : tlL w.params (A ++ B) V1.rows rest = tl)
    (N : News h₀ L h ((R.a, instObj 196 R.d) :: (R.d, rowO w.params R) :: (V.st, instObj 439 V.ds) :: (V.ds, stO w.params V) :: (V.da, V1.oa) :: (V.dj, PySem.W.listOf ((V1.rows.map fun r => Value.ref r.a).toArray.push (Value.ref R.a)) (V1.nj + 1)) :: (V.dt, V1.ot) :: (V.dd, V.od) :: (x.a, instObj 154 x.d) :: (x.d, accO w.params x') :: (x.sd, x'.so) :: tl))
    (e1 : x'.k = x.k) (e2 : x'.a = x.a) (e3 : x'.d = x.d) (e4 : x'.sd = x.sd) (e5 : ∃ t, x'.so.IsDictOf (PySem.intKind pw w) (slKvs x'.sl t)) (e6 : x'.ct = f x.ct) (ho : ∀ o', o = some o' → RowIs R o') (l4 : @LT.lt Nat _ R.d R.a)
    (b0 : @LT.lt Nat _ V.st R.d) (b1 : @LT.lt Nat _ V.ds R.d) (b2 : @LT.lt Nat _ V.da R.d) (b3 : @LT.lt Nat _ V.dj R.d) (b4 : @LT.lt Nat _ V.dt R.d) (b5 : @LT.lt Nat _ V.dd R.d) (b7 : @LT.lt Nat _ x.a R.d) (b8 : @LT.lt Nat _ x.d R.d) (b9 : @LT.lt Nat _ x.sd R.d) (b6 : AllLt R.d tl) : ∃ l', News h₀ L h l' ∧ UpPost w V rest k f o .none l' := by
  have hch := W.wf.chg W.sp e1 e2 e3 e4 e5
  obtain ⟨hm, hxk⟩ := accAt_mem W.at_
  have hnd := keys_nd W.wf
  obtain ⟨as, rs, tc, oa, ot, nj, rfl, h1, h2, h3, h4, h5⟩ := W.ex
  have hsp : V.accs ++ as = A ++ x :: B := W.sp
  have htc : tc = tchd V.touched k := h4
  subst htc
  have hnd2 : (newA [] [R]).Nodup ∧ ∀ z ∈ newA [] [R], @LE.le Nat _ R.d z := nd2 l4
  have hsub : ∀ p ∈ tlL w.params (A ++ x' :: B) (V.rows ++ rs) rest, AllLt R.d [p] := by
    intro p hp
    have hp' := tl_pull.mp hp
    rw [e2, e3, e4, List.mem_cons, List.mem_cons, List.mem_cons] at hp'
    rcases hp' with rfl | rfl | rfl | hp'
    · exact ⟨b7, trivial⟩
    · exact ⟨b8, trivial⟩
    · exact ⟨b9, trivial⟩
    · exact ⟨allLt_mem.mp b6 p (by rw [← hT]; exact hp'), trivial⟩
  have hG := hch.grow [] [R] (tchd V.touched k) oa ot (nj + 1) (by rw [List.append_nil]; exact hch.oa) hch.ot (fun _ h => nomatch h) (fun _ h => nomatch h) (by have := hch.sa; exact this) hch.st
    (by show (V.rows ++ rs).length + 1 ≤ 10000; rw [List.length_append]; omega) hnd2.1 (fresh_all (b := R.d) (allLt_st b0 b1 b2 b3 b4 b5 (allLt_mem.mpr fun p hp => (hsub p hp).1)) hnd2.2)
  have hE : StV.grow { V.grow as rs (tchd V.touched k) oa ot nj with accs := A ++ x' :: B } [] [R] (tchd V.touched k) oa ot (nj + 1) = V.put (A ++ x' :: B) (tchd V.touched k) (V.rows ++ (rs ++ [R])) oa ot (nj + 1) := by
    unfold StV.grow StV.put
    simp only [List.append_nil, List.append_assoc]
  rw [hE] at hG
  rw [rowsO_push] at N
  refine ⟨stL w.params (V.put (A ++ x' :: B) (tchd V.touched k) (V.rows ++ (rs ++ [R])) oa ot (nj + 1)) rest, News.sub N fun p hp => ?_, A ++ x' :: B, rs ++ [R], oa, ot, nj + 1, rfl, rfl, hG, ?_, ?_, ?_⟩
  · rw [← hE] at hp
    refine grow_sub (V := { V.grow as rs (tchd V.touched k) oa ot nj with accs := A ++ x' :: B }) [] [R] (tchd V.touched k) oa ot (nj + 1) (by repeat first | exact .head _ | apply List.Mem.tail) (by repeat first | exact .head _ | apply List.Mem.tail) (by repeat first | exact .head _ | apply List.Mem.tail) (by repeat first | exact .head _ | apply List.Mem.tail) (by repeat first | exact .head _ | apply List.Mem.tail) (by repeat first | exact .head _ | apply List.Mem.tail) (fun p hp => ?_) (fun _ h => nomatch h) (rowL_sub (by repeat first | exact .head _ | apply List.Mem.tail) (by repeat first | exact .head _ | apply List.Mem.tail) (fun _ h => nomatch h)) p hp
    have hp' := tl_pull.mp hp
    rw [e2, e3, e4, List.mem_cons, List.mem_cons, List.mem_cons] at hp'
    rcases hp' with rfl | rfl | rfl | hp'
    · repeat first | exact .head _ | apply List.Mem.tail
    · repeat first | exact .head _ | apply List.Mem.tail
    · repeat first | exact .head _ | apply List.Mem.tail
    · have : p ∈ tl := by rw [← hT]; exact hp'
      repeat first | exact this | apply List.Mem.tail
  · have hu := updC_mid (A := A) (B := B) (x := x) (x' := x') (k := k) (f := f) hxk (e1.trans hxk) e6 (by rw [← hsp]; exact hnd)
    rw [hu]
    unfold updC
    rw [ctAt_cont]
    rcases h3 with ⟨hx, rfl⟩ | ⟨hx, rfl, z1, z2, z3, z4⟩
    · rw [hx, ← hsp, List.append_nil]
      rfl
    · rw [hx, ← hsp]
      rw [if_neg (by simp)]
      unfold cont
      rw [List.map_append, List.map_append]
      have hno : ∀ z ∈ V.accs, z.k ≠ k := fun z hz e => by
        unfold accAt at hx
        have := List.find?_eq_none.mp hx z hz
        simp [e] at this
      have h9 : (V.accs.map fun x => (x.k, x.ct)).map (fun z => if z.1 = k then (k, f z.2) else z) = V.accs.map fun x => (x.k, x.ct) := by
        rw [List.map_map]
        exact List.map_congr_left fun z hz => by simp [hno z hz]
      rw [h9]
      have hct : x.ct = noCt := by unfold Acc.ct noCt; rw [z1, z2, z3, z4]
      simp [hxk, hct]
  · rw [List.length_append]; show rs.length + 1 ≤ 3; omega
  · cases o with
    | none => trivial
    | some o' =>
      show RowsAre (rs ++ [R]) _
      refine RowsAre.append (os' := [o']) h5 (RowsAre.one (ho o' rfl))
theorem Wr2.old {w : World} {V V1 : StV} {rest l' : Led} {k : Int} {r : Value} {A B : List Acc} {x : Acc} (W : Wr2 w V rest k r l' V1 A B x) : balAt V.accs k = x.bal := by
  obtain ⟨as, rs, tc, oa, ot, nj, -, -, -, h, -⟩ := W.ex
  unfold balAt
  rcases h with ⟨h, -⟩ | ⟨h, -, -, h2, -⟩
  · rw [h]; rfl
  · rw [h, h2]; rfl
-- PART 12: set_balance, set_nonce, set_code walked
set_option maxHeartbeats 8000000 in
theorem set_balance_con {w : World} {hv0 : Option Value} (V : StV) (rest : Led) (H : WF w V rest) (k b : Int) (t u : Tok) (ha : V.accs.length ≤ 900) (hb : V.touched.length ≤ 900) (hc : V.rows.length ≤ 9000) (h0 : 0 ≤ b) (h1 : b < 2 ^ 256) :
    Con w hv0 289 [.ref V.st, .int k t, .int b u] 20 200 (stL w.params V rest) (UpPost w V rest k (fun c => { c with bal := b }) (some (.bal k (balAt V.accs k)))) := by
  intro mean mg mb dp un gd cn cs a ccd cl outer A₀ base h₀ L m s Q E B F X N T hk hd hu ret
  have hl : stL w.params V rest = (V.st, instObj 439 V.ds) :: (V.ds, stO w.params V) :: (V.da, V.oa) :: (V.dj, rowsO V.rows V.nj) :: (V.dt, V.ot) :: (V.dd, V.od) :: tlL w.params V.accs V.rows rest := rfl
  k_dflt ktr_enter
  k_steps
  unfold Halt
  k_dflt (refine Con.useK (written_con2 V rest H k _ ha hb hc) wr2_el (by k_asm) (by k_asm) (by k_asm) (by k_asm) (fun p hp => hp) (by k_asm) (by first | exact rfl | assumption) (by walk_at "DEP") (by walk_at "UNI") ?_)
  intro V1 A1 B1 x l' W h' tk' F' N'
  have hap := W.apx
  rw [W.led] at N'
  generalize hT : tlL w.params (A1 ++ B1) V1.rows rest = tl at N' hap
  obtain ⟨⟨c01, c02, c03, c04, c05, c12, c13, c14, c15, c23, c24, c25, c34, c35, c45, z0, z1, z2, z3, z4, z5⟩, ⟨x1, x2, x3, x4, x5, x6, x7, x8, x9, x10, x11⟩⟩ := hap
  have hszr := W.wf.sr
  k_steps
  obtain ⟨l9, N9, P9⟩ := st_upd (f := fun c => { c with bal := b }) (o := some (.bal k (balAt V.accs k))) (x' := { x with bal := b, u2 := u }) H W ha hc hT (by k_asm) rfl rfl rfl rfl (W.wf.so x (accAt_mem W.at_).1) rfl (fun o' ho => by cases ho; exact ⟨by assumption, by assumption, _, (by first | assumption | (rw [W.old]; assumption))⟩) (by assumption) (by assumption) (by assumption) (by assumption) (by assumption) (by assumption) (by assumption) (by assumption) (by assumption) (by assumption) (by assumption)
  exact ret _ _ _ l9 (by k_asm) N9 P9
set_option maxHeartbeats 8000000 in
theorem set_nonce_con {w : World} {hv0 : Option Value} (V : StV) (rest : Led) (H : WF w V rest) (k b : Int) (t u : Tok) (ha : V.accs.length ≤ 900) (hb : V.touched.length ≤ 900) (hc : V.rows.length ≤ 9000) :
    Con w hv0 310 [.ref V.st, .int k t, .int b u] 20 200 (stL w.params V rest) (UpPost w V rest k (fun c => { c with nonce := b }) none) := by
  intro mean mg mb dp un gd cn cs a ccd cl outer A₀ base h₀ L m s Q E B F X N T hk hd hu ret
  have hl : stL w.params V rest = (V.st, instObj 439 V.ds) :: (V.ds, stO w.params V) :: (V.da, V.oa) :: (V.dj, rowsO V.rows V.nj) :: (V.dt, V.ot) :: (V.dd, V.od) :: tlL w.params V.accs V.rows rest := rfl
  k_dflt ktr_enter
  k_steps
  unfold Halt
  k_dflt (refine Con.useK (written_con2 V rest H k _ ha hb hc) wr2_el (by k_asm) (by k_asm) (by k_asm) (by k_asm) (fun p hp => hp) (by k_asm) (by first | exact rfl | assumption) (by walk_at "DEP") (by walk_at "UNI") ?_)
  intro V1 A1 B1 x l' W h' tk' F' N'
  have hap := W.apx
  rw [W.led] at N'
  generalize hT : tlL w.params (A1 ++ B1) V1.rows rest = tl at N' hap
  obtain ⟨⟨c01, c02, c03, c04, c05, c12, c13, c14, c15, c23, c24, c25, c34, c35, c45, z0, z1, z2, z3, z4, z5⟩, ⟨x1, x2, x3, x4, x5, x6, x7, x8, x9, x10, x11⟩⟩ := hap
  have hszr := W.wf.sr
  k_steps
  obtain ⟨l9, N9, P9⟩ := st_upd (f := fun c => { c with nonce := b }) (o := none) (x' := { x with nonce := b, u1 := u }) H W ha hc hT (by k_asm) rfl rfl rfl rfl (W.wf.so x (accAt_mem W.at_).1) rfl (fun o' ho => nomatch ho) (by assumption) (by assumption) (by assumption) (by assumption) (by assumption) (by assumption) (by assumption) (by assumption) (by assumption) (by assumption) (by assumption)
  exact ret _ _ _ l9 (by k_asm) N9 P9
set_option maxHeartbeats 8000000 in
theorem set_code_con {w : World} {hv0 : Option Value} (V : StV) (rest : Led) (H : WF w V rest) (k : Int) (b : Array UInt8) (t u : Tok) (ha : V.accs.length ≤ 900) (hb : V.touched.length ≤ 900) (hc : V.rows.length ≤ 9000) :
    Con w hv0 324 [.ref V.st, .int k t, .bytes b u] 20 200 (stL w.params V rest) (UpPost w V rest k (fun c => { c with code := b }) none) := by
  intro mean mg mb dp un gd cn cs a ccd cl outer A₀ base h₀ L m s Q E B F X N T hk hd hu ret
  have hl : stL w.params V rest = (V.st, instObj 439 V.ds) :: (V.ds, stO w.params V) :: (V.da, V.oa) :: (V.dj, rowsO V.rows V.nj) :: (V.dt, V.ot) :: (V.dd, V.od) :: tlL w.params V.accs V.rows rest := rfl
  k_dflt ktr_enter
  k_steps
  unfold Halt
  k_dflt (refine Con.useK (written_con2 V rest H k _ ha hb hc) wr2_el (by k_asm) (by k_asm) (by k_asm) (by k_asm) (fun p hp => hp) (by k_asm) (by first | exact rfl | assumption) (by walk_at "DEP") (by walk_at "UNI") ?_)
  intro V1 A1 B1 x l' W h' tk' F' N'
  have hap := W.apx
  rw [W.led] at N'
  generalize hT : tlL w.params (A1 ++ B1) V1.rows rest = tl at N' hap
  obtain ⟨⟨c01, c02, c03, c04, c05, c12, c13, c14, c15, c23, c24, c25, c34, c35, c45, z0, z1, z2, z3, z4, z5⟩, ⟨x1, x2, x3, x4, x5, x6, x7, x8, x9, x10, x11⟩⟩ := hap
  have hszr := W.wf.sr
  k_steps
  obtain ⟨l9, N9, P9⟩ := st_upd (f := fun c => { c with code := b }) (o := none) (x' := { x with code := b, u3 := u }) H W ha hc hT (by k_asm) rfl rfl rfl rfl (W.wf.so x (accAt_mem W.at_).1) rfl (fun o' ho => nomatch ho) (by assumption) (by assumption) (by assumption) (by assumption) (by assumption) (by assumption) (by assumption) (by assumption) (by assumption) (by assumption) (by assumption)
  exact ret _ _ _ l9 (by k_asm) N9 P9
-- PART 20: an exception's own class with its own __init__
def excO (C t : Addr) (dd : Option Addr) : Obj := { cls := .ref C, dict := dd, data := .fields #[.ref t, .none, .none, .none, .bool false, .none] }
def tup1 (v : Value) : Obj := { cls := .type "tuple", data := .seq #[v] }
section
variable {prog : Program} {w : World} {A : Around} {E : Value → Shared → Prop} {s : Shared} {h₀ : Heap} {L : Addr} {m : Str → Option Value} {K : Frag} {C e t : Addr} {dd : Option Addr} {v : Value} {tail : Led}
theorem exc_init {Q : Value → Shared → Prop} (X₀ : K.In h₀) (q : ktsIn K C "Exception" = true) (F : Fr h₀ L s.heap m) (N : News h₀ L s.heap ((e, excO C t dd) :: tail)) (hne : ∀ p ∈ tail, p.1 ≠ e)
    (h : ∀ h' t', Fr h₀ L h' m → News h₀ L h' ((t', tup1 v) :: (e, excO C t' dd) :: tail) → (∀ p ∈ (e, excO C t dd) :: tail, p.1 < t') → Q .none { s with heap := h' }) :
    wpAny (model prog w) A (call (.builtin "Exception.__init__") [.ref e, v]) Q E s := by
  have FF := PySem.F.excBase_Exception
  obtain ⟨nm, q', N', bs, bm, hdct, sn, sub, ab, col, dd', k0, k1, k2, k3, k5, newId, hC, hbase, hbT⟩ := kts_cls (X₀.keeps F.keep) q
  obtain ⟨hp, g, d, tk, os⟩ := s
  have he := (N _ List.mem_cons_self).1
  have hcB : (Value.ref C :: bm).contains (.type "Exception") = true := by rw [List.contains_cons, hbT, Bool.or_true]
  have hcls : (excO C t dd).cls = .ref C := rfl
  refine wpAny_call (codeAny_call_builtin FF.init.plain FF.initEntry ?_)
  have hshort := FF.noStar
  simp only [checkBuiltinCall, FF.initKind, FF.initSplit, FF.initRow]
  repeat (first | (with_reducible refine wpAny_loadPart_at he ?_; rw [hcls]) | with_reducible refine wpAny_loadPart_at hC ?_ | (with_reducible refine wpAny_isSubtype_exc hC ?_; rw [hcB]) | wp_step)
  have hlt : ∀ b o, hp.get? b = some o → b ≠ e → ((hp.push (tup1 v)).update e (Obj.mapFields fun x => x.setIfInBounds 0 (Value.ref hp.objs.size))).get? b = some o := fun b o hb hbe => by
    rw [Heap.get?_update_other _ _ (Ne.symm hbe)]
    exact Heap.get?_push_of_some _ hb
  have hup := Heap.get?_update_self (Obj.mapFields fun x => x.setIfInBounds 0 (Value.ref hp.objs.size)) (Heap.get?_push_of_some (tup1 v) he) rfl
  have hnew : ((hp.push (tup1 v)).update e (Obj.mapFields fun x => x.setIfInBounds 0 (Value.ref hp.objs.size))).get? hp.objs.size = some (tup1 v) := by
    rw [Heap.get?_update_other _ _ (Nat.ne_of_lt (Heap.lt_size he))]
    exact Heap.get?_push_at rfl rfl
  have heL : e ≠ L := (N _ List.mem_cons_self).2.1
  have heh : h₀.get? e = none := (N _ List.mem_cons_self).2.2
  have kp : ∀ b o, h₀.get? b = some o → ((hp.push (tup1 v)).update e (Obj.mapFields fun x => x.setIfInBounds 0 (Value.ref hp.objs.size))).get? b = some o := fun b o hb => hlt b o (F.keep b o hb) (fun hq => by rw [hq, heh] at hb; cases hb)
  obtain ⟨oL, es, ep, hoL, hdL, hrL⟩ := F.ns
  refine h _ hp.objs.size ⟨⟨oL, es, ep, hlt _ _ hoL (Ne.symm heL), hdL, hrL⟩, kp, F.above⟩ (fun p hp' => ?_) fun p hp' => Heap.lt_size (N p hp').1
  rcases List.mem_cons.mp hp' with rfl | hp'
  · exact ⟨hnew, Nat.ne_of_gt F.ns.lt, none_at_size F⟩
  rcases List.mem_cons.mp hp' with rfl | hp'
  · exact ⟨hup, heL, heh⟩
  · have z := N p (List.mem_cons_of_mem _ hp')
    exact ⟨hlt _ _ z.1 (hne p hp'), z.2⟩
end
-- PART 21: self.word = word where self is an exception of an own class
noncomputable def excMro : List Value → Bool
  | [.type a, .type b, .type c] => a == "Exception" && (b == "BaseException" && c == "object")
  | .ref _ :: r => excMro r
  | _ => false
noncomputable def overX (K : Frag) (C : Addr) : Bool := (clsIn K C).any fun cd => excMro cd.mro
theorem refuse_exc3 (self : Value) : refuseLoop self "__setattr__" [.type "Exception", .type "BaseException", .type "object"] = pure () := by kernel_rfl
theorem refuse_exc (self : Value) : ∀ {l : List Value}, excMro l = true → refuseLoop self "__setattr__" l = pure ()
  | [.type a, .type b, .type c], e => by
    unfold excMro at e
    rw [Bool.and_eq_true, Bool.and_eq_true, beq_iff_eq, beq_iff_eq, beq_iff_eq] at e
    obtain ⟨rfl, rfl, rfl⟩ := e
    exact refuse_exc3 self
  | .ref c :: r, e => by rw [refuseLoop_ref]; exact refuse_exc self (by unfold excMro at e; exact e)
theorem excMro_has : ∀ {l : List Value}, excMro l = true → l.contains (.type "object") = true
  | [.type a, .type b, .type c], e => by
    unfold excMro at e
    rw [Bool.and_eq_true, Bool.and_eq_true, beq_iff_eq, beq_iff_eq, beq_iff_eq] at e
    obtain ⟨rfl, rfl, rfl⟩ := e
    simp
  | .ref c :: r, e => by rw [List.contains_cons, excMro_has (l := r) (by unfold excMro at e; exact e), Bool.or_true]
theorem excMro_ne : ∀ {l : List Value}, excMro l = true → l.isEmpty = false
  | [.type a, .type b, .type c], e => rfl
  | .ref c :: r, e => rfl
section
variable {prog : Program} {w : World} {A : Around} {R : Result → Shared → Prop} {E : Value → Shared → Prop} {s : Shared} {h₀ : Heap} {L : Addr} {m : Str → Option Value} {K : Frag} {C e t : Addr} {v : Value} {tail : Led} {name : Str}
theorem osa_exc {ox : Obj} {od : Option Obj} {tk : Tok} (X : K.In s.heap) (I : InstAt s.heap e ox C od) (hp : overX K C = true) (ht : takerIn K C name = some none)
    (h : ∀ b, wpAny (model prog w) A.in1 (PySem.Builtin.ObjectAttr.storeInOwnDict (.ref e) (.ref C) (.str name tk) name v b)
      (fun fin s' => match fin with | .done f => R (.ok f) s' | .again c' => c'.quiet = true ∧ codeAny (model prog w) A c' R s') (fun e s' => R (.error e) s') s) :
    codeAny (model prog w) A (.call (.builtin "object.__setattr__") ⟨[.ref e, .str name tk, v], []⟩) R s := by
  have SF := PySem.F.store_object
  obtain ⟨cd, hc, ho⟩ := any_some hp
  have ne : cd.mro.isEmpty = false := excMro_ne ho
  have sub : Looks (model prog w) s.heap (isInstance (.ref e) (.type "object")) true := I.type.andThen (looks_mroIn X (by unfold mroIn; rw [hc, Option.bind_some, if_neg (by rw [ne]; decide), excMro_has ho]))
  refine codeAny_call_builtin SF.slot.plain SF.entry (@check_slot (model prog w) _ _ s "object.__setattr__" "object" "__setattr__" (.ref e) [.str name tk, v] [] _ SF.kind SF.split sub (SF.args (.ref e) (.str name tk) v) ?_)
  obtain ⟨attr, hat, hr⟩ := Option.bind_eq_some_iff.mp ht
  have hm : Looks (model prog w) s.heap (mroOf (.ref C)) cd.mro := (looks_clsIn X hc).andThen .now
  have L3 : Looks (model prog w) s.heap (PySem.Builtin.ObjectAttr.storeTaker? attr) none := by
    cases attr with
    | none => exact .now
    | some a =>
      obtain ⟨b, hb, hq⟩ := Option.map_eq_some_iff.mp hr
      refine (looks_takesIn X hb).andThen ?_
      cases b
      · exact .now
      · cases hq
  rw [osa_eq, refuse_eq]
  refine wpAny_bind (wpAny_bind (I.type.here (wpAny_bind (hm.here ?_))))
  rw [refuse_exc _ ho]
  refine wpAny_pure (wpAny_bind (I.type.here (wpAny_bind ((looks_findIn X hat).here (wpAny_bind (L3.here ?_))))))
  exact h _
end
section
variable {prog : Program} {w : World} {A : Around} {E : Value → Shared → Prop} {s : Shared} {h₀ : Heap} {L : Addr} {m : Str → Option Value} {K : Frag} {C e t : Addr} {v : Value} {tail : Led} {name : Str}
theorem osa_exc_new {R : Result → Shared → Prop} {tk : Tok} (X₀ : K.In h₀) (hp : overX K C = true) (ht : takerIn K C name = some none) (hh : hasDictIn K C = true)
    (F : Fr h₀ L s.heap m) (N : News h₀ L s.heap ((e, excO C t none) :: tail)) (hne : ∀ p ∈ tail, p.1 ≠ e)
    (h : ∀ h' d k tk, Fr h₀ L h' m → News h₀ L h' ((d, PySem.W.dictOf [⟨PyData.keyHash w.params name, .str name k, v⟩] 1) :: (e, excO C t (some d)) :: tail) → (∀ p ∈ (e, excO C t none) :: tail, p.1 < d) → R (.ok (.ret .none)) { s with heap := h', toks := tk }) :
    codeAny (model prog w) A (.call (.builtin "object.__setattr__") ⟨[.ref e, .str name tk, v], []⟩) R s := by
  have he := (N _ List.mem_cons_self).1
  have I : InstAt s.heap e (excO C t none) C none := ⟨he, rfl, rfl, trivial⟩
  have X := X₀.keeps F.keep
  refine osa_exc X I hp ht fun b => ?_
  obtain ⟨cd, hc, hd'⟩ := any_some hh
  refine wpAny_bind (wpAny_pure (wpAny_bind (wpAny_bind (wpAny_loadPart he (wpAny_bind ((looks_clsIn X hc).here ?_))))))
  rw [hd']
  have heL : e ≠ L := (N _ List.mem_cons_self).2.1
  have heh : h₀.get? e = none := (N _ List.mem_cons_self).2.2
  have hlt : ∀ b o, s.heap.get? b = some o → b < s.heap.objs.size := fun b o hb => Heap.lt_size hb
  generalize hh0 : s.heap = hp at *
  have h1 := Heap.get?_push_of_some { cls := .type "dict", data := .dict #[] } he
  have D1 : (hp.push { cls := .type "dict", data := .dict #[] }).get? hp.objs.size = some { cls := .type "dict", data := .dict #[] } := Heap.get?_push_at rfl rfl
  have hne' : hp.objs.size ≠ e := Nat.ne_of_gt (hlt _ _ he)
  have D2 := (Heap.get?_update_other (hp.push { cls := .type "dict", data := .dict #[] }) (fun o : Obj => { o with dict := some hp.objs.size }) (Ne.symm hne')).trans D1
  have e2 := Heap.get?_update_self (fun o : Obj => { o with dict := some hp.objs.size }) h1 rfl
  refine wpAny_bind (wpAny_alloc (wpAny_bind (wpAny_update (o := excO C t none) (by rw [hh0]; exact h1) (wpAny_pure (wpAny_bind (wpAny_pure (wpAny_bind ?_)))))))
  rw [hh0]
  unfold nsSet
  refine wpAny_bind (wpAny_bind (wpAny_askSetting (wpAny_pure (wpAny_bind (wpAny_mkText (wpAny_bind (wpAny_loadPart D2 ?_)))))))
  dsimp only
  have c : ((!(#[] : Array DictEntry).any (·.key.isStr name)) && (#[] : Array DictEntry).any (·.refKey)) = false := by simp
  rw [aRefKeyMayBeTheName_at, c]
  refine wpAny_updatePart D2 ?_
  have e' : ∀ (H : Int) (k : Tok), Obj.putName name H (.str name k) v { cls := .type "dict", data := .dict #[] } = PySem.W.dictOf [⟨H, .str name k, v⟩] 1 := fun H k => rfl
  have D3 := fun (H : Int) (k : Tok) => Heap.get?_update_self (Obj.putName name H (.str name k) v) D2 (by rw [e']; rfl)
  refine wpAny_bind (wpAny_lookBehind (D3 _ _) (by rw [e']; exact pastItsLine_dict (by rw [List.size_toArray, sizeLine_eq]; simp only [List.length_singleton]; decide)) ?_)
  have oth : ∀ (H : Int) (k : Tok) b o, hp.get? b = some o → b ≠ e → (((hp.push { cls := .type "dict", data := .dict #[] }).update e (fun o : Obj => { o with dict := some hp.objs.size })).update hp.objs.size (Obj.putName name H (.str name k) v)).get? b = some o := fun H k b o hb hbe => by
    rw [Heap.get?_update_other _ _ (Nat.ne_of_gt (hlt _ _ hb)), Heap.get?_update_other _ _ (Ne.symm hbe)]
    exact Heap.get?_push_of_some _ hb
  have e3 := fun (H : Int) (k : Tok) => (Heap.get?_update_other ((hp.push { cls := .type "dict", data := .dict #[] }).update e (fun o : Obj => { o with dict := some hp.objs.size })) (Obj.putName name H (.str name k) v) hne').trans e2
  obtain ⟨oL, es, ep, hoL, hdL, hrL⟩ := F.ns
  have G : ∀ (H : Int) (k : Tok), Fr h₀ L (((hp.push { cls := .type "dict", data := .dict #[] }).update e (fun o : Obj => { o with dict := some hp.objs.size })).update hp.objs.size (Obj.putName name H (.str name k) v)) m ∧
      News h₀ L (((hp.push { cls := .type "dict", data := .dict #[] }).update e (fun o : Obj => { o with dict := some hp.objs.size })).update hp.objs.size (Obj.putName name H (.str name k) v)) ((hp.objs.size, PySem.W.dictOf [⟨H, .str name k, v⟩] 1) :: (e, excO C t (some hp.objs.size)) :: tail) := fun H k => by
    refine ⟨⟨⟨oL, es, ep, oth H k _ _ hoL (Ne.symm heL), hdL, hrL⟩, fun b o hb => oth H k b o (F.keep b o hb) (fun hq => by rw [hq, heh] at hb; cases hb), F.above⟩, fun p hp' => ?_⟩
    rcases List.mem_cons.mp hp' with rfl | hp'
    · exact ⟨(D3 H k).trans (congrArg some (e' H k)), Nat.ne_of_gt F.ns.lt, Heap.get?_none_of_le (Nat.le_trans F.above (Nat.le_of_lt F.ns.lt))⟩
    rcases List.mem_cons.mp hp' with rfl | hp'
    · exact ⟨e3 H k, heL, heh⟩
    · have z := N p (List.mem_cons_of_mem _ hp')
      exact ⟨oth H k _ _ z.1 (hne p hp'), z.2⟩
  have HH := h _ hp.objs.size s.toks (s.toks + 1) (G (PyData.keyHash w.params name) s.toks).1 (G (PyData.keyHash w.params name) s.toks).2 fun p hp' => hlt _ _ (N p hp').1
  exact wpAny_pure HH
theorem exc_setw {Q : Unit → Shared → Prop} (X₀ : K.In h₀) (hs : findIn K (.ref C) "__setattr__" = some (some (.builtin "object.__setattr__"))) (hp : overX K C = true) (ht : takerIn K C name = some none) (hh : hasDictIn K C = true)
    (F : Fr h₀ L s.heap m) (N : News h₀ L s.heap ((e, excO C t none) :: tail)) (hne : ∀ p ∈ tail, p.1 ≠ e)
    (h : ∀ h' d k tk, Fr h₀ L h' m → News h₀ L h' ((d, PySem.W.dictOf [⟨PyData.keyHash w.params name, .str name k, v⟩] 1) :: (e, excO C t (some d)) :: tail) → (∀ p ∈ (e, excO C t none) :: tail, p.1 < d) → Q () { s with heap := h', toks := tk }) :
    wpAny (model prog w) A (setAttr (.ref e) name v) Q E s :=
  set_plain (od := none) (X₀.keeps F.keep) ⟨(N _ List.mem_cons_self).1, rfl, rfl, trivial⟩ hs (osa_exc_new (s := { s with toks := s.toks + 1 }) X₀ hp ht hh F N hne h)
end
-- PART 22: MachineFault.__init__ walked
set_option maxHeartbeats 4000000 in
theorem init35_con {w : World} {hv0 : Option Value} (e t : Addr) (x : Str) (u : Tok) (tail : Led) (hne : ∀ p ∈ tail, p.1 ≠ e) :
    Con w hv0 35 [.ref e, .str x u] 4 30 ((e, excO 51 t none) :: tail) (fun r l' => r = .none ∧ ∃ t' d k n, l' = (d, PySem.W.dictOf [ent w.params (Str.ofString "word") k (.str x u)] n) :: (e, excO 51 t' (some d)) :: (t', tup1 (.str x u)) :: tail) := by
  intro mean mg mb dp un gd cn cs a ccd cl outer A₀ base h₀ L m s Q E B F X N T hk hd hu ret
  k_dflt ktr_enter
  k_steps
  k_dflt (refine' method_type ?F ?X ?m (by decide +kernel) ?e ?h ?_)
  case F => k_asm
  case X => k_asm
  case m => kernel_rfl
  case e => k_dflt k_is
  case h => k_handed
  k_steps
  k_dflt (refine exc_init (C := 51) (tail := tail) (by k_asm) (by kts_isx) (by k_asm) (by k_asm) hne ?_)
  intro h1 t1 F1 N1 lt1
  have N1' := News.sub N1 (l' := (e, excO 51 t1 none) :: (t1, tup1 (.str x u)) :: tail) (by intro p hp; simp only [List.mem_cons] at hp ⊢; rcases hp with h | h | h <;> simp [h])
  clear N1
  have lt2 : @Ne Nat t1 e := Nat.ne_of_gt (lt1 _ List.mem_cons_self)
  have hne2 : ∀ p ∈ (t1, tup1 (.str x u)) :: tail, p.1 ≠ e := fun p hp => by
    rcases List.mem_cons.mp hp with rfl | hp
    · exact lt2
    · exact hne p hp
  k_steps
  k_dflt (refine exc_setw (K := Mine.hd.heap_39 w.params) (C := 51) (tail := (t1, tup1 (.str x u)) :: tail) (by k_asm) (by k_is) (by kernel_rfl) (by k_is) (by k_is) (by k_asm) (by k_asm) hne2 ?_)
  intro h2 d2 k2 tk2 F2 N2 lt3
  k_steps
  exact ret _ _ _ _ (by k_asm) (by k_asm) ⟨rfl, _, _, _, _, rfl⟩
theorem init35_el {w : World} {e : Addr} {x : Str} {u : Tok} {tail : Led} (M : Value → Led → Prop) (h : ∀ t' d k n, M .none ((d, PySem.W.dictOf [ent w.params (Str.ofString "word") k (.str x u)] n) :: (e, excO 51 t' (some d)) :: (t', tup1 (.str x u)) :: tail)) :
    ∀ r l', (r = .none ∧ ∃ t' d k n, l' = (d, PySem.W.dictOf [ent w.params (Str.ofString "word") k (.str x u)] n) :: (e, excO 51 t' (some d)) :: (t', tup1 (.str x u)) :: tail) → M r l' := by
  rintro r l' ⟨rfl, t', d, k, n, rfl⟩
  exact h t' d k n
-- PART 23: an exception's own class called, its __init__ found along its bases; raise
section
variable {prog : Program} {w : World} {A : Around} {R : Result → Shared → Prop} {E : Value → Shared → Prop} {h : Heap} {g : Array GenState} {d : Drawn} {t : Nat} {os : OsState}
variable {nm q : Str} {C N : Addr} {bs bm : List Value} {hdct : Bool} {sn : List Str} {sub : List Value} {ab : Bool} {col : Option Bool} {dd : Option Addr} {k0 k1 k2 k3 k5 : Option Value}

structure ExcTail (bm : List Value) : Prop where
  has : bm.contains (.type "Exception") = true
  base : bm.contains (.type "BaseException") = true
  noA : bm.contains (.type "AttributeError") = false
  noN : bm.contains (.type "NameError") = false

theorem exc_check_new {M : Model} (T : ExcTail bm) {rest : List Value} {Q : Unit → Shared → Prop} (hC : h.get? C = some (excClassObj nm q C N bs bm hdct sn sub ab col dd k0 k1 k2 k3 k5 "Exception.__new__"))
    (hq : Q () ⟨h, g, d, t, os⟩) : wpAny M A (checkBuiltinCall "Exception.__new__" ⟨.ref C :: rest, []⟩) Q E ⟨h, g, d, t, os⟩ := by
  have F := PySem.F.excBase_Exception
  have hcont : (Value.ref C :: bm).contains (.type "Exception") = true := by rw [List.contains_cons, T.has, Bool.or_true]
  have hstar := F.noStar
  simp only [checkBuiltinCall, F.newKind, F.newSplit, F.newRow]
  repeat (first | refine wpAny_loadPart_at hC ?_ | (refine wpAny_isSubtype_exc hC ?_; rw [hcont]) | refine wpAny_staticBase_exc hC ?_ | refine wpAny_madeBy_exc hC ?_ | simp only [bne_self_eq_false, Bool.false_eq_true, if_false] | wp_step)
  exact hq
theorem exc_new (T : ExcTail bm) {rest : List Value} (hC : h.get? C = some (excClassObj nm q C N bs bm hdct sn sub ab col dd k0 k1 k2 k3 k5 "Exception.__new__"))
    (hq : R (.ok (.ret (.ref (h.objs.size + 1)))) ⟨(h.push { cls := .type "tuple", data := .seq rest.toArray }).push (excO C h.objs.size none), g, d, t, os⟩) (hrest : rest.length ≤ sizeLine) :
    codeAny (model prog w) A (.builtin "Exception.__new__" ⟨.ref C :: rest, []⟩) R ⟨h, g, d, t, os⟩ := by
  have F := PySem.F.excBase_Exception
  have hends := F.ends
  have hcB : (Value.ref C :: bm).contains (.type "Exception") = true := by rw [List.contains_cons, T.has, Bool.or_true]
  have hcA : (Value.ref C :: bm).contains (.type "AttributeError") = false := by rw [List.contains_cons, T.noA]; rfl
  have hcN : (Value.ref C :: bm).contains (.type "NameError") = false := by rw [List.contains_cons, T.noN]; rfl
  refine codeAny_builtinAt F.entry ?_
  unfold Builtin.«BaseException.__new__»
  refine PySem.wpAt_bind ?_
  show PySem.wpAt _ _ _ (stack >>= _) _ _ _
  refine PySem.wpAt_bind (PySem.wpAt_stack fun p below => PySem.wpAt_of_wpAny ?_)
  wp_walk
  refine PySem.wpAt_of_wpAny ?_
  rw [F.owner]
  repeat (first | with_reducible refine wpAny_madeHere_exc F.canon hC ?_ | with_reducible refine wpAny_loadPart_at hC ?_ | (with_reducible refine wpAny_isSubtype_exc hC ?_; first | rw [hcB] | rw [hcA] | rw [hcN]) | wp_step)
  show R _ _
  rw [Heap.size_push]
  exact hq
end
section
variable {prog : Program} {w : World} {A : Around} {E : Value → Shared → Prop} {s : Shared} {h₀ : Heap} {L : Addr} {m : Str → Option Value} {K : Frag} {news : Led}
variable {nm q : Str} {C N fI : Addr} {bs bm : List Value} {hdct : Bool} {sn : List Str} {sub : List Value} {ab : Bool} {col : Option Bool} {dd : Option Addr} {k0 k1 k2 k3 k5 : Option Value} {v : Value}
theorem call_exc_own {Q : Value → Shared → Prop} (X₀ : K.In h₀) (ho : K.lookup C = some (excClassObj nm q C N bs bm hdct sn sub ab col dd k0 k1 k2 k3 k5 "Exception.__new__")) (T : ExcTail bm)
    (hi : findIn K (.ref C) "__init__" = some (some (.ref fI))) (hf : typeIn K (.ref fI) = some (.type "function")) (F : Fr h₀ L s.heap m) (N' : News h₀ L s.heap news)
    (hq : ∀ h' e t, Fr h₀ L h' m → News h₀ L h' ((e, excO C t none) :: (t, tup1 v) :: news) → @Ne Nat t e → (∀ p ∈ news, p.1 < t) → (∀ p ∈ news, p.1 < e) →
      wpAny (model prog w) (A.under (.builtin "type.__call__" ⟨.ref C :: [v], []⟩)) (call (.ref fI) [.ref e, v]) (fun r s' => r = .none ∧ Q (.ref e) s') E { s with heap := h' }) :
    wpAny (model prog w) A (call (.ref C) [v]) Q E s := by
  have f1 := tc_lookup
  have f2 := tc_bind (.ref C)
  have FF := PySem.F.excBase_Exception
  have X := X₀.keeps F.keep
  have hC := X _ _ ho
  obtain ⟨h, g, d, t, os⟩ := s
  have hT : (⟨h, g, d, t, os⟩ : Shared).TypeIs (.ref C) "type" := ⟨_, hC, rfl⟩
  refine wpAny_call (codeAny_of_tree ?_)
  show wpAny _ _ (callAny (.ref C) _) _ _ _
  repeat (any_goals (first | assumption | with_reducible refine wpAny_loadPart_at hC ?_ | wp_step))
  refine ⟨rfl, ?_⟩
  refine codeAny_call_builtin_at (Code.quiet_builtin _ (by decide +kernel)) entry_typeCall (wpAny_check_type_call_sub hC ?_)
  repeat (first | with_reducible refine wpAny_loadPart_at hC ?_ | with_reducible refine wpAny_madeBy_exc hC ?_ | wp_step)
  refine codeAny_call_builtin_code (Code.quiet_builtin _ FF.quiet) (exc_check_new T hC ?_)
  refine exc_new T hC ?_ (by show 1 ≤ sizeLine; rw [sizeLine_eq]; decide)
  show wpAny _ _ _ _ _ _
  have up : ∀ b o, h.get? b = some o → ((h.push (tup1 v)).push (excO C h.objs.size none)).get? b = some o := fun b o e => Heap.get?_push_of_some _ (Heap.get?_push_of_some _ e)
  have hC₁ := up _ _ hC
  have hget : ((h.push (tup1 v)).push (excO C h.objs.size none)).get? (h.objs.size + 1) = some (excO C h.objs.size none) := Heap.get?_push_at (by rw [Heap.size_push]) rfl
  have htup : ((h.push (tup1 v)).push (excO C h.objs.size none)).get? h.objs.size = some (tup1 v) := Heap.get?_push_of_some _ (Heap.get?_push_at rfl rfl)
  have hcls : (excO C h.objs.size none).cls = .ref C := rfl
  have hcC : (Value.ref C :: bm).contains (.ref C) = true := by simp
  have F₁ := F.keeps up
  have X₁ := X₀.keeps F₁.keep
  have N₁ : News h₀ L ((h.push (tup1 v)).push (excO C h.objs.size none)) ((h.objs.size + 1, excO C h.objs.size none) :: (h.objs.size, tup1 v) :: news) := fun p hp => by
    rcases List.mem_cons.mp hp with rfl | hp
    · exact ⟨hget, Nat.ne_of_gt (Nat.lt_succ_of_lt F.ns.lt), Heap.get?_none_of_le (Nat.le_trans F.above (Nat.le_of_lt (Nat.lt_succ_of_lt F.ns.lt)))⟩
    rcases List.mem_cons.mp hp with rfl | hp
    · exact ⟨htup, Nat.ne_of_gt F.ns.lt, none_at_size F⟩
    · have z := N' p hp
      exact ⟨up _ _ z.1, z.2⟩
  show wpAny _ _ _ _ _ ⟨(h.push (tup1 v)).push (excO C h.objs.size none), g, d, t, os⟩
  unfold isInstance
  repeat (first | with_reducible refine wpAny_loadPart_at hget ?_ | wp_step)
  rw [hcls]
  repeat (first | with_reducible refine wpAny_loadPart_at hget ?_ | (with_reducible refine wpAny_isSubtype_exc hC₁ ?_; rw [hcC]) | wp_step)
  show wpAny _ _ (typeLookup (.ref C) _) _ _ _
  refine (looks_findIn X₁ hi).here ?_
  refine wpAny_holding (wpAny_bind ?_)
  unfold bindSpecial
  refine wpAny_bind ((looks_typeIn X₁ hf).here ?_)
  rw [if_pos (by decide)]
  refine wpAny_pure (wpAny_bind (wpAny_mono (hq _ (h.objs.size + 1) h.objs.size F₁ N₁ (Nat.ne_of_lt (Nat.lt_succ_self _)) (fun p hp => Heap.lt_size (N' p hp).1) (fun p hp => Nat.lt_succ_of_lt (Heap.lt_size (N' p hp).1))) (fun r s' hr => ?_) fun _ _ x => x))
  obtain ⟨rfl, hQ⟩ := hr
  wp_walk
  exact hQ
theorem exec_raise_exc {env : Env} {Q : Flow → Shared → Prop} {ex : Expr} {pos : Pos} (X₀ : K.In h₀) (ho : K.lookup C = some (excClassObj nm q C N bs bm hdct sn sub ab col dd k0 k1 k2 k3 k5 "Exception.__new__")) (T : ExcTail bm) (hh : A.handled = none)
    (h : wpAny (model prog w) A (eval ex env) (fun v s₁ => ∃ e t dd', v = .ref e ∧ (∀ b o, h₀.get? b = some o → s₁.heap.get? b = some o) ∧ s₁.heap.get? e = some (excO C t dd') ∧ E (.ref e) s₁) E s) :
    wpAny (model prog w) A (exec (.Raise (some ex) none pos) env) Q E s := by
  rw [arm_exec_Raise]
  refine wpAny_bind (wpAny_standAt ?_)
  have hcB : (Value.ref C :: bm).contains (.type "BaseException") = true := by rw [List.contains_cons, T.base, Bool.or_true]
  simp only [evalOpt, Option.map]
  unfold raiseStmt
  refine wpAny_bind (wpAny_bind (wpAny_mono h (fun v s₁ h₁ => ?_) fun _ _ x => x))
  obtain ⟨e, t, dd', rfl, hk, he, hE⟩ := h₁
  refine wpAny_bind (wpAny_standAt (wpAny_pure ?_))
  obtain ⟨hp, g, d, tk, os⟩ := s₁
  have hC := hk _ _ (X₀ _ _ ho)
  have hcls : (excO C t dd').cls = .ref C := rfl
  repeat (first | (with_reducible refine wpAny_loadPart_at he ?_) | with_reducible refine wpAny_loadPart_at hC ?_ | (with_reducible refine wpAny_isSubtype_exc hC ?_; rw [hcB]) | wp_step | rw [hcls])
  exact wpAny_raiseNew_none hh hE
end
-- PART 24: an exception's flight, its own dict kept
def HasD (h : Heap) (e : Addr) (dd : Option Addr) : Prop := ∃ oe, h.get? e = some oe ∧ oe.dict = dd
theorem mapF_dict (o : Obj) (f : Array Value → Array Value) : (Obj.mapFields f o).dict = o.dict := by
  obtain ⟨c, d, dt, sl⟩ := o
  cases dt <;> rfl
section
variable {M : Model} {A : Around} {E : Value → Shared → Prop} {s : Shared}
theorem entryD {base : Heap} {env : Env} {outer : List Env} {L e : Addr} {oe : Obj} {vs : Array Value} {head a0 : Value} {hadNext : Bool} {Q : Unit → Shared → Prop}
    (hfr : A.frames = some (env :: outer)) (hl : s.heap.FunFrames base (env :: outer)) (hf : env.frame = some L)
    (he : s.heap.get? e = some oe) (hkb : base.StaysIn s.heap) (hen : base.get? e = none) (hd : oe.data = .fields vs) (hsz : 1 < vs.size) (h0 : vs[0]? = some a0)
    (h : ∀ h', Heap.NotedW base (env :: outer) e oe.cls a0 (rawInt L) s.heap h' → HasD h' e oe.dict → Q () { s with heap := h' }) :
    wpAny M A (do let a ← frameOf env; let pl ← entryPlaceOf L hadNext; let b ← EntryCells.newEntry head a .none (rawInt L) .none pl; setField (.ref e) 1 b) Q E s := by
  have hne : e ∉ (env :: outer).filterMap (·.frame) := fun hm => by
    obtain ⟨_, o, ho, hnf⟩ := hl.mem hm
    rw [he] at ho
    cases ho
    exact hnf vs hd
  have out : ∀ b o, base.get? b = some o → b ∉ (env :: outer).filterMap (·.frame) := fun b o hb hm => by
    rw [(hl.mem hm).1] at hb
    cases hb
  refine wpAny_bind (wpAny_frameOf_fun hfr hl hf fun h₁ hs₁ => ?_)
  refine wpAny_bind (wpAny_entryPlaceOf fun pl hpl => ?_)
  unfold EntryCells.newEntry newFields
  refine wpAny_bind (wpAny_newObj_type ?_ (hpl.sizeOk5 _ _ _ _ _))
  have he₁ : h₁.get? e = some oe := (hs₁.2.1 e hne).trans he
  have kb₁ : base.StaysIn h₁ := fun b o hb => (hs₁.2.1 b (out b o hb)).trans (hkb b o hb)
  generalize hT : ({ cls := .type "traceback", dict := none, data := .fields ([head, .ref L, .none, rawInt L, .none] ++ (if pl.isEmpty then List.replicate 6 Value.none else pl)).toArray } : Obj) = oT
  have he₂ := Heap.get?_push_of_some oT he₁
  refine wpAny_setField he₂ hd hsz (h _ ?_ ?_)
  · have hTe : h₁.objs.size ≠ e := Nat.ne_of_gt (Heap.lt_size he₁)
    have hd₃ := Obj.data_mapFields hd (·.setIfInBounds 1 (Value.ref h₁.objs.size))
    have he₃ := Heap.get?_update_self (Obj.mapFields (·.setIfInBounds 1 (Value.ref h₁.objs.size))) he₂ (Obj.isFreed_of_fields hd₃)
    have hfree : oT.isFreed = false := by rw [← hT]; rfl
    have hT₃ := (Heap.get?_update_other (h₁.push oT) (Obj.mapFields (·.setIfInBounds 1 (Value.ref h₁.objs.size))) (Ne.symm hTe)).trans (Heap.get?_push_size h₁ hfree)
    have keep : ∀ b o, b ≠ e → h₁.get? b = some o → ((h₁.push oT).update e (Obj.mapFields (·.setIfInBounds 1 (Value.ref h₁.objs.size)))).get? b = some o := fun b o hbe hb => by
      rw [Heap.get?_update_other _ _ (Ne.symm hbe)]
      exact Heap.get?_push_of_some _ hb
    have nr : ∀ b o, s.heap.get? b = some o → (∀ vs, o.data ≠ .fields vs) → b ≠ e := fun b o hb hnf q => by
      rw [q, he] at hb
      cases hb
      exact hnf vs hd
    refine ⟨fun b o hb => keep b o (fun q => by rw [q, hen] at hb; cases hb) (kb₁ b o hb), hl.of_keeps fun b o hb hnf => ?_, ?_, fun b o hb hnf => ?_⟩
    · obtain ⟨sl, hs⟩ := hs₁.2.2 b o hb
      exact ⟨_, keep b _ (nr b o hb hnf) hs, rfl⟩
    · subst hT
      exact ⟨_, _, h₁.objs.size, _, _, he₃, ⟨Obj.cls_mapFields _ _, by rw [Array.getElem?_setIfInBounds_ne (by decide)]; exact h0⟩, hd₃, by simp [hsz], kb₁.fresh, hTe, hT₃, rfl, by first | (simp; done) | (rcases hpl with rfl | ⟨_, _, _, _, _, _, _, rfl⟩ <;> simp)⟩
    · obtain ⟨sl, hs⟩ := hs₁.2.2 b o hb
      exact ⟨sl, keep b _ (nr b o hb hnf) hs⟩
  · exact ⟨_, Heap.get?_update_self _ he₂ (Obj.isFreed_of_fields (Obj.data_mapFields hd _)), mapF_dict _ _⟩
theorem noteFirstD {base : Heap} {env : Env} {outer : List Env} {L e : Addr} {oe : Obj} {vs : Array Value} {a0 : Value} {Q : Unit → Shared → Prop}
    (hfr : A.frames = some (env :: outer)) (hl : s.heap.FunFrames base (env :: outer)) (hf : env.frame = some L)
    (he : s.heap.get? e = some oe) (hkb : base.StaysIn s.heap) (hen : base.get? e = none) (hd : oe.data = .fields vs) (h1 : vs[1]? = some .none) (h0 : vs[0]? = some a0)
    (h : ∀ h', Heap.NotedW base (env :: outer) e oe.cls a0 (rawInt L) s.heap h' → HasD h' e oe.dict → Q () { s with heap := h' }) : wpAny M A (noteFrame (.ref e) env) Q E s := by
  unfold noteFrame
  simp only [hf]
  refine wpAny_bind (wpAny_field he hd h1 ?_)
  rw [if_neg (by decide)]
  exact entryD hfr hl hf he hkb hen hd (Array.getElem?_eq_some_iff.mp h1).1 h0 h
theorem noteNextD {base : Heap} {env : Env} {outer : List Env} {L e : Addr} {cls a0 : Value} {dd : Option Addr} {Q : Unit → Shared → Prop}
    (hfr : A.frames = some (env :: outer)) (hl : s.heap.FunFrames base (env :: outer)) (hf : env.frame = some L) (ht : s.heap.TracedW base e cls a0) (hkb : base.StaysIn s.heap) (hen : base.get? e = none) (hD : HasD s.heap e dd)
    (h : ∀ h', Heap.NotedW base (env :: outer) e cls a0 (rawInt L) s.heap h' → HasD h' e dd → Q () { s with heap := h' }) : wpAny M A (noteFrame (.ref e) env) Q E s := by
  obtain ⟨oe, vs, T, oT, ts, he, ⟨hcls, h0⟩, hd, h1, hnT, hTe, hT, hdT, h3⟩ := ht
  obtain ⟨oe', he', hdd⟩ := hD
  rw [he] at he'
  cases he'
  subst hcls hdd
  unfold noteFrame
  simp only [hf]
  refine wpAny_bind (wpAny_field he hd h1 ?_)
  rw [if_pos (show (Value.ref T != Value.none) = true from by simp)]
  refine wpAny_bind (wpAny_field hT hdT h3 ?_)
  rw [if_neg (show ¬ ((Value.none == rawInt L) = true) from by simp [rawInt])]
  refine wpAny_bind (wpAny_setField hT hdT (Array.getElem?_eq_some_iff.mp h3).1 ?_)
  have other : ∀ b, b ≠ T → (s.heap.update T (Obj.mapFields (·.setIfInBounds 3 Value.none))).get? b = s.heap.get? b := fun b hb => Heap.get?_update_other _ _ (Ne.symm hb)
  have nr : ∀ b o, s.heap.get? b = some o → (∀ vs, o.data ≠ .fields vs) → b ≠ T := fun b o hb hnf q => by
    rw [q, hT] at hb
    cases hb
    exact hnf ts hdT
  refine entryD hfr (hl.of_keeps fun b o hb hnf => ⟨o, (other b (nr b o hb hnf)).trans hb, rfl⟩) hf ((other e (Ne.symm hTe)).trans he)
    (fun b o hb => (other b fun q => by rw [q, hnT] at hb; cases hb).trans (hkb b o hb)) hen hd (Array.getElem?_eq_some_iff.mp h1).1 h0 fun h' hN hD' => h h' ⟨hN.1, hN.2.1, hN.2.2.1, fun b o hb hnf => hN.2.2.2 b o ((other b (nr b o hb hnf)).trans hb) hnf⟩ hD'
theorem setFlightD {base : Heap} {l : List Env} {e : Addr} {cls a0 fl : Value} {dd : Option Addr} {Q : Unit → Shared → Prop}
    (hkb : base.StaysIn s.heap) (hl : s.heap.FunFrames base l) (ht : s.heap.TracedAtW base e cls a0 fl) (hD : HasD s.heap e dd)
    (h : ∀ h', base.StaysIn h' → h'.FunFrames base l → h'.TracedW base e cls a0 → (∀ b o, s.heap.get? b = some o → (∀ vs, o.data ≠ .fields vs) → h'.get? b = some o) → HasD h' e dd → Q () { s with heap := h' }) :
    wpAny M A (setFlight (.ref e) none) Q E s := by
  obtain ⟨oe, vs, T, oT, ts, he, hcls, hd, h1, hnT, hTe, hT, hdT, h3⟩ := ht
  obtain ⟨oe', he', hdd⟩ := hD
  rw [he] at he'
  cases he'
  have hsz3 : 3 < ts.size := (Array.getElem?_eq_some_iff.mp h3).1
  have other : ∀ b, b ≠ T → (s.heap.update T (Obj.mapFields (·.setIfInBounds 3 ((none : Option Addr).elim Value.none fun f => rawInt f)))).get? b = s.heap.get? b :=
    fun b hb => Heap.get?_update_other _ _ (Ne.symm hb)
  have nr : ∀ b o, s.heap.get? b = some o → (∀ vs, o.data ≠ .fields vs) → b ≠ T := fun b o hb hnf q => by
    rw [q, hT] at hb
    cases hb
    exact hnf ts hdT
  have he' := (other e (Ne.symm hTe)).trans he
  unfold setFlight
  refine wpAny_bind (wpAny_field he hd h1 ?_)
  rw [if_pos (show (Value.ref T != Value.none) = true from by simp)]
  exact wpAny_setField hT hdT hsz3 (h _ (fun b o hb => (other b fun q => by rw [q, hnT] at hb; cases hb).trans (hkb b o hb))
    (hl.of_keeps fun b o hb hnf => ⟨o, (other b (nr b o hb hnf)).trans hb, rfl⟩) ⟨oe, vs, T, _, _, he', hcls, hd, h1, hnT, hTe, Heap.get?_update_self _ hT (Obj.isFreed_of_fields (Obj.data_mapFields hdT _)), Obj.data_mapFields hdT _, by simp [hsz3]⟩ (fun b o hb hnf => (other b (nr b o hb hnf)).trans hb) ⟨oe, he', hdd⟩)
end
-- PART 25: leaving a frame with an exception of an own class; catching it
def RaisedD (base G : Heap) (l : List Env) (e : Addr) (cls : Value) (dd : Option Addr) (news : Led) (h : Heap) : Prop :=
  ∃ B a0, base.StaysIn B ∧ (∀ b o, G.get? b = some o → b ∉ l.filterMap (·.frame) → B.get? b = some o) ∧ (∀ q ∈ news, B.get? q.1 = some q.2 ∧ G.get? q.1 = none ∧ base.get? q.1 = none) ∧ Heap.FlyingW B l e cls a0 h ∧ HasD h e dd
theorem kts_memX {name : Str} {scope : Scope} {L a b : Addr} {cd : Value} {outer : List Env} (hm : b ∈ (envOf name scope L a cd :: outer).filterMap (·.frame)) : b = L ∨ b ∈ outer.filterMap (·.frame) := kts_mem hm
section
variable {M : Model} {A : Around} {E : Value → Shared → Prop} {s' : Shared} {base g : Heap} {outer : List Env} {L a e t C : Addr} {m : Str → Option Value} {name : Str} {scope : Scope} {cd : Value} {dd : Option Addr} {Q : Unit → Shared → Prop} {news : Led}
theorem leave_excD (K : Below A base outer g) (F : Fr g L s'.heap m) (N : News g L s'.heap ((e, excO C t dd) :: news)) (hne : ∀ p ∈ news, p.1 ≠ e)
    (hQ : ∀ h', RaisedD base g outer e (.ref C) dd news h' → g.UpToSlots h' → Q () { s' with heap := h' }) (hk : scope.kind = .function) :
    wpAny M (A.deeper (envOf name scope L a cd)) (leaving (envOf name scope L a cd) (.ref e)) Q E s' := by
  have K' := K.push (name := name) (a := a) (cd := cd) F hk
  have he := (N _ List.mem_cons_self).1
  have heg : g.get? e = none := (N _ List.mem_cons_self).2.2
  have heb : base.get? e = none := fresh_of_stays K.stays heg
  generalize hfs : (envOf name scope L a cd :: outer).filterMap (·.frame) = fs
  have hin : ∀ env ∈ (envOf name scope L a cd :: outer), ∀ b, env.frame = some b → b ∈ e :: fs := fun env he b hb => List.mem_cons_of_mem _ (by rw [← hfs]; exact List.mem_filterMap.mpr ⟨env, he, hb⟩)
  have out : ∀ b, b ∈ fs → b = L ∨ b ∈ outer.filterMap (·.frame) := fun b hb => kts_mem (by rw [hfs]; exact hb)
  have bs : ∀ b o, base.get? b = some o → b ∉ e :: fs := fun b o hb hm => by
    rcases List.mem_cons.mp hm with rfl | hm
    · rw [heb] at hb; cases hb
    · rw [← hfs] at hm
      rw [(K'.frames.mem hm).1] at hb; cases hb
  have st : base.StaysIn (hideAll s'.heap (e :: fs)) := fun b o hb => hideAll_get _ (K'.stays b o hb) (bs b o hb)
  have sg : ∀ b o, g.get? b = some o → b ∉ outer.filterMap (·.frame) → (hideAll s'.heap (e :: fs)).get? b = some o := fun b o hb nm => hideAll_get _ (F.keep b o hb) fun hm => by
    rcases List.mem_cons.mp hm with rfl | hm
    · rw [heg] at hb; cases hb
    · rcases out b hm with rfl | z
      · rw [kts_self F] at hb; cases hb
      · exact nm z
  have hl : ∀ q ∈ news, (hideAll s'.heap (e :: fs)).get? q.1 = some q.2 ∧ g.get? q.1 = none ∧ base.get? q.1 = none := fun q hq => by
    have z := N q (List.mem_cons_of_mem _ hq)
    refine ⟨hideAll_get _ z.1 fun hm => ?_, z.2.2, fresh_of_stays K.stays z.2.2⟩
    rcases List.mem_cons.mp hm with hm | hm
    · exact hne q hq hm
    · rcases out _ hm with y | y
      · exact z.2.1 y
      · obtain ⟨_, o, ho, _⟩ := K.frames.mem y
        rw [z.2.2] at ho; cases ho
  have hen : (hideAll s'.heap (e :: fs)).get? e = none := hideAll_none _ List.mem_cons_self
  unfold leaving
  refine wpAny_bind (noteFirstD (a0 := .ref t) K'.stack (funFrames_hide K'.frames hin) rfl he (fun b o hb => of_hideAll _ hb) hen rfl rfl rfl fun h₁ hN hD => ?_)
  obtain ⟨k1, k2, k3, k4⟩ := hN
  refine setFlightD k1 k2 k3 hD fun h₂ x1 x2 x3 x4 x5 => ?_
  obtain ⟨_, _, x2⟩ := x2
  exact hQ h₂ ⟨_, .ref t, st, sg, hl, ⟨x1, hen, x2, x3⟩, x5⟩ ((Heap.UpToSlots.of_keeps F.keep).trans fun b o hb hn => by
    obtain ⟨sl, hs⟩ := k4 b o hb hn
    exact ⟨sl, x4 b _ hs hn⟩)
end
section
variable {prog : Program} {w : World} {A₀ : Around} {E : Value → Shared → Prop} {s' : Shared} {base g g₀ G : Heap} {outer : List Env} {L a e C : Addr} {m : Str → Option Value} {name : Str} {scope : Scope} {cd : Value} {dd : Option Addr}
  {n : Str} {b₀ : Stmt} {suite : List Stmt} {pos np : Pos} {rest : List ExceptHandler} {Q : Flow → Shared → Prop} {news : Led} {KF : Frag}
  {p : Program} {loose : List Str} {mean : ExcName → Option Value} {mg mb : Str → Option Value} {x : Str}
theorem caughtD (R : RaisedD base G (envOf name scope L a cd :: outer) e (.ref C) dd news s'.heap) (F : Fr g L G m) (K : Below A₀ base outer g) (hsm : G.UpToSlots s'.heap) (XB : KF.In base) (TB : Top p loose mean mg mb base)
    (D : KtsDicts (outer.filterMap (·.frame)) g) (T0 : KtsTurn (outer.filterMap (·.frame)) g₀ g)
    (ex : nsIn KF mainGlobals x = some (some (.ref C))) (q : ktsIn KF C "BaseException" = true)
    (k : ∀ h' g' oe ws tk, KtsTurn (outer.filterMap (·.frame)) g₀ g' → Fr g' L h' (fun y => if y = n then some (.ref e) else m y) → oe.cls = .ref C → oe.dict = dd → oe.data = .fields ws → News g' L h' ((e, oe) :: news) → Below A₀ base outer g' → KF.In g' → Top p loose mean mg mb g' → KtsDicts (outer.filterMap (·.frame)) g' →
      wpAny (model prog w) ((A₀.deeper (envOf name scope L a cd)).mark (some (.ref e))) (execs (b₀ :: suite) (envOf name scope L a cd))
        (fun f s₄ => wpAny (model prog w) (A₀.deeper (envOf name scope L a cd)) (do bindName (envOf name scope L a cd) n .none; unbindBehindTheSuite (envOf name scope L a cd) n pos) (fun _ s₅ => Q f s₅) E s₄)
        (AsSuiteRaised (model prog w) ((A₀.deeper (envOf name scope L a cd)).mark (some (.ref e))) (envOf name scope L a cd) n pos (notedBy (model prog w) ((A₀.deeper (envOf name scope L a cd)).mark (some (.ref e))) (envOf name scope L a cd) (cameBackBy (model prog w) (A₀.deeper (envOf name scope L a cd)) (envOf name scope L a cd) E)))
        { s' with heap := h', toks := tk })
    (hk : scope.kind = .function := by rfl) (hlo : (envOf name scope L a cd).kindOf n = some .local := by rfl) (hx : (envOf name scope L a cd).kindOf x = some .globalImplicit := by rfl) (hd : (x == ("__debug__" : Str)) = false := by decide) :
    wpAny (model prog w) (A₀.deeper (envOf name scope L a cd)) (noteFrame (.ref e) (envOf name scope L a cd))
      (fun _ s₂ => wpAny (model prog w) (A₀.deeper (envOf name scope L a cd)) (setFlight (.ref e) none) (fun _ s₃ =>
        wpAny (model prog w) (A₀.deeper (envOf name scope L a cd)) (handleBy (.ref e) (envOf name scope L a cd) (.ExceptHandler (some (.Name x np)) (some n) (b₀ :: suite) pos :: rest)) Q E s₃) E s₂) E s' := by
  obtain ⟨B, a0, hB, hBG, hl, ⟨f1, f2, f3, f4⟩, hD⟩ := R
  have hL : B.get? L = none := by
    obtain ⟨_, ⟨L', _, hf, hn', _⟩, _⟩ := f3
    obtain rfl : L = L' := Option.some.inj hf
    exact hn'
  refine noteNextD (Around.frames_deeper K.stack) f3 rfl f4 f1 f2 hD fun h₄ hN hD₄ => ?_
  obtain ⟨k1, k2, k3, k4⟩ := hN
  refine setFlightD k1 k2 k3 hD₄ fun h₅ x1 x2 x3 x4 hD₅ => ?_
  have hsm₅ : s'.heap.UpToSlots h₅ := fun b o hb hn => by
    obtain ⟨sl, hs⟩ := k4 b o hb hn
    exact ⟨sl, x4 b _ hs hn⟩
  obtain ⟨g₅, T₅, F₅, K₅⟩ := kts_ground K F hBG x1 (hsm.trans hsm₅)
  have X₅ : KF.In g₅ := XB.keeps K₅.stays
  have P₅ : TopRead p loose mg mb g₅ := topRead_of (TB.keeps K₅.stays)
  obtain ⟨ob, hob, hobc⟩ := x3.at.there
  obtain ⟨nm, q', N, bs, bm, hdct, sn, sub, ab, col, dd', k0', k1', k2', k3', k5', newId, hC, hbase, hbT⟩ := kts_cls X₅ q
  have hC₅ := F₅.keep _ _ hC
  refine wpAny_handleBy_cons (codeAny_handlers_test (name_K F₅ X₅ P₅ ex ?_ hk hx hd)) (by intro q; cases q)
  refine wpAny_excMatches_sub_self hC₅ hob hobc hbase (codeAny_handlers_suite_as ?_)
  refine setFlightD x1 x2 x3.at hD₅ fun h₆ y1 y2 y3 y4 hD₆ => ?_
  have hsm₆ : h₅.UpToSlots h₆ := fun b o hb hn => ⟨o.slots, y4 b o hb hn⟩
  obtain ⟨g₆, T₆, F₆, K₆⟩ := kts_ground K F hBG y1 ((hsm.trans hsm₅).trans hsm₆)
  obtain ⟨oe, hoe, hoed⟩ := hD₆
  obtain ⟨oe', ws, _, _, _, hoe', ⟨hoec, _⟩, hoef, _⟩ := y3
  rw [hoe] at hoe'
  cases hoe'
  have ne₆ : g₆.get? e = none := T₆.none_ _ (kts_fresh F hBG f2 fun o ho mm => by
    obtain ⟨_, o', ho', hd⟩ := K.frames.mem mm
    rw [ho] at ho'
    cases ho'
    obtain ⟨sl, hs⟩ := ((hsm.trans hsm₅).trans hsm₆) _ _ (F.keep _ _ ho) hd
    rw [hoe] at hs
    cases hs
    exact hd _ hoef)
  have N₆ : News g₆ L h₆ [(e, oe)] := News.more F₆ News.nil hoe (fun es n q => by rw [hoef] at q; cases q) ne₆
  have Nl : News g₆ L h₆ news := fun q hq => ⟨y1 _ _ (hl q hq).1, (fun z => by have := (hl q hq).1; rw [z, hL] at this; cases this), T₆.none_ _ (kts_none F.keep (hl q hq).2.1)⟩
  have X₆ : KF.In g₆ := XB.keeps K₆.stays
  have P₆ : Top p loose mean mg mb g₆ := TB.keeps K₆.stays
  have D₆ : KtsDicts (outer.filterMap (·.frame)) g₆ := D.turn T₆
  refine stN F₆ (news := [(e, oe)] ++ news) (fun q hq => (List.mem_append.mp hq).elim (N₆ q) (Nl q)) (fun h₇ F₇ N₇ => ?_) hk hlo
  exact k h₇ g₆ oe ws _ (T0.trans T₆) F₇ hoec hoed hoef N₇ K₆ X₆ P₆ D₆
end
-- PART 26: an attribute of an exception of an own class read
section
variable {prog : Program} {w : World} {A : Around} {E : Value → Shared → Prop} {s : Shared} {h₀ : Heap} {L : Addr} {m : Str → Option Value} {K : Frag} {C e d : Addr} {v : Value} {news : Led} {name : Str} {oe : Obj} {ws : Array Value} {es : List DictEntry} {n : Nat}
theorem check_ga {M : Model} {h : Heap} {g : Array GenState} {dr : Drawn} {t : Nat} {os : OsState} {nm q : Str} {N : Addr} {bs bm : List Value} {hdct : Bool} {sn : List Str} {sub : List Value} {ab : Bool} {col : Option Bool} {dd : Option Addr} {k0 k1 k2 k3 k5 : Option Value} {newId : String} {nameV : Value} {Q : Unit → Shared → Prop}
    (hC : h.get? C = some (excClassObj nm q C N bs bm hdct sn sub ab col dd k0 k1 k2 k3 k5 newId)) (hbase : bm.contains (.type "BaseException") = true) (hx : h.get? e = some oe) (hc : oe.cls = .ref C) (hq : Q () ⟨h, g, dr, t, os⟩) :
    wpAny M A (checkBuiltinCall "BaseException.__getattribute__" ⟨[.ref e, nameV], []⟩) Q E ⟨h, g, dr, t, os⟩ := by
  have hk : builtinKind "BaseException.__getattribute__" = some .slot := by decide +kernel
  have hsplit : splitId "BaseException.__getattribute__" = some ("BaseException", "__getattribute__") := by decide +kernel
  have hcB : (Value.ref C :: bm).contains (.type "BaseException") = true := by rw [List.contains_cons, hbase]; rfl
  have hargs := PySem.F.args_bexc_ga (.ref e) nameV
  simp only [checkBuiltinCall, hk, hsplit]
  refine wpAny_bind ?_
  unfold isInstance
  repeat (first | (with_reducible refine wpAny_loadPart_at hx ?_; rw [hc]) | (with_reducible refine wpAny_isSubtype_exc hC ?_; rw [hcB]) | wp_step)
  exact hq
theorem get_exc {expr : Bool} {Q : Value → Shared → Prop} (X₀ : K.In h₀) (q : ktsIn K C "BaseException" = true) (hga : findIn K (.ref C) "__getattribute__" = some (some (.builtin "BaseException.__getattribute__"))) (hgt : findIn K (.ref C) "__getattr__" = some none)
    (hh : hasDictIn K C = true) (ha : findIn K (.ref C) name = some none) (hl : getL name es = some (some v)) (hv : handedIn v = true) (F : Fr h₀ L s.heap m) (N : News h₀ L s.heap news) (he : (e, oe) ∈ news) (hd : (d, PySem.W.dictOf es n) ∈ news)
    (c1 : oe.cls = .ref C) (c2 : oe.dict = some d) (c3 : oe.data = .fields ws) (h : ∀ tk, Q v { s with toks := tk }) :
    wpAny (model prog w) A (getAttr (.ref e) name expr) Q E s := by
  have X := X₀.keeps F.keep
  have he' := (N _ he).1
  have hd' := (N _ hd).1
  have I : InstAt s.heap e oe C (some (PySem.W.dictOf es n)) := ⟨he', c1, by unfold notCls; rw [c3], by rw [c2]; exact hd'⟩
  obtain ⟨nm, q', N', bs, bm, hdct, sn, sub, ab, col, dd, k0, k1, k2, k3, k5, newId, hC, hbase, hbT⟩ := kts_cls X q
  have hf := findObj_own (od := PySem.W.dictOf es n) hh ha (by rfl) hl
  obtain ⟨hp, g, dr, t, os⟩ := s
  have L0 := I.type (M := model prog w)
  have L1 := looks_findIn (M := model prog w) X hga
  have L2 := looks_findIn (M := model prog w) X hgt
  have LF := looks_find (M := model prog w) X I hf
  have f3 := PySem.F.excAttr_ValueError.ga.bind (.ref e)
  have hx0 : (expr && onTheHeap (Value.builtin "BaseException.__getattribute__")) = false := by cases expr <;> rfl
  have hx2 : (Value.builtin "BaseException.__getattribute__" == Value.builtin "object.__getattribute__") = false := by decide +kernel
  have hx1 : (onTheHeap (Value.ref C) && Value.builtin "BaseException.__getattribute__" == Value.builtin "object.__getattribute__") = false := by rw [hx2]; rfl
  unfold getAttr getAttrBy
  refine wpAny_bind (wpAny_mkText (wpAny_holding (wpAny_bind (L0.at (wpAny_bind (L1.at ?_))))))
  dsimp only
  rw [hx1]
  rw [if_neg (by decide)]
  unfold getAttrByItsOwn
  refine wpAny_bind (L2.at ?_)
  repeat (any_goals (first | assumption | wp_step))
  · refine codeAny_call_builtin PySem.F.excAttr_ValueError.ga.plain PySem.F.entry_bexc_ga ?_
    refine check_ga hC hbase he' c1 ?_
    refine wpAny_bind (wpAny_pure (wpAny_bind (wpAny_pure (wpAny_bind (L0.at (wpAny_bind (LF.at ?_)))))))
    refine wpAny_pure ?_
    show wpAny _ _ (handedOut v) _ _ _
    rw [handedOut_of hv]
    exact wpAny_pure (h _)
  all_goals trace_state
end
theorem rows_3 : True := by
  k_with "exec Raise some none" => refine halt_ ?_
  k_with "call ref" => ((with_reducible show wpAny _ _ (call (Value.ref 51) _) _ _ _); refine halt_ ?_)
  k_with "leaving ref" => refine halt_ ?_
  trivial
-- PART 27: withdraw
def ConE (w : World) (hd : Option Value) (f : Addr) (args : List Value) (D U : Nat) (l : Led) (Post : Value → Led → Prop) (Ref : Prop) : Prop :=
  ∀ (mean : ExcName → Option Value) (mg mb : Str → Option Value) (dp un : Nat) (gd : Option (List Code)) (cn : Str) (cs : Scope) (a : Addr) (ccd : Value) (cl : List (Str × Addr)) (outer : List Env) (A₀ : Around) (base h₀ : Heap) (L : Addr)
    (m : Str → Option Value) (s : Shared) (Q E : Value → Shared → Prop),
    Below A₀ base outer h₀ → Fr h₀ L s.heap m → (Mine.hd.heap_39 w.params).In h₀ → News h₀ L s.heap l → Tp mean mg mb h₀ → cs.kind = .function → dp + D < 600 → un + U < 9000 →
    (∀ r h' tk' l', Fr h₀ L h' m → News h₀ L h' l' → Post r l' → Q r { s with heap := h', toks := tk' }) →
    (Ref → ∀ G e d k u n h' tk', Fr h₀ L G m → G.UpToSlots h' → RaisedD base G (envX cn cs L a ccd cl :: outer) e (.ref 51) (some d) ((d, PySem.W.dictOf [ent w.params (Str.ofString "word") k (.str (Str.ofString "withdrawal") u)] n) :: l) h' → E (.ref e) { s with heap := h', toks := tk' }) →
    wpAny (model pw w) (atp hd dp un gd cn cs L a ccd cl outer) (call (.ref f) args) Q E s
theorem balAt_le {accs : List Acc} (h : ∀ x ∈ accs, 0 ≤ x.bal) (k : Int) : 0 ≤ balAt accs k ∧ balAt accs k ≤ totOf accs := by
  have hs : ∀ l : List Acc, (∀ x ∈ l, 0 ≤ x.bal) → 0 ≤ totOf l := by
    intro l
    induction l with
    | nil => intro _; decide
    | cons y r ih =>
      intro hy
      have h1 := ih fun x hx => hy x (List.mem_cons_of_mem _ hx)
      have h2 := hy y List.mem_cons_self
      unfold totOf at h1 ⊢
      rw [List.map_cons, List.sum_cons]
      omega
  unfold balAt
  cases hx : accAt accs k with
  | none => exact ⟨Int.le_refl _, hs _ h⟩
  | some x =>
    obtain ⟨hm, -⟩ := accAt_mem hx
    refine ⟨h x hm, ?_⟩
    show x.bal ≤ totOf accs
    clear hx
    induction accs with
    | nil => cases hm
    | cons y r ih =>
      have h2 := h y List.mem_cons_self
      have h1 : 0 ≤ totOf r := hs r fun x hx => h x (List.mem_cons_of_mem _ hx)
      rcases List.mem_cons.mp hm with rfl | hm
      · unfold totOf at h1 ⊢
        rw [List.map_cons, List.sum_cons]
        omega
      · have h3 := ih (fun x hx => h x (List.mem_cons_of_mem _ hx)) hm
        unfold totOf at h3 ⊢
        rw [List.map_cons, List.sum_cons]
        omega
theorem ne_tail {t e : Addr} {o : Obj} {news : Led} (n1 : @Ne Nat t e) (n3 : ∀ p ∈ news, p.1 < e) : ∀ p ∈ (t, o) :: news, p.1 ≠ e := fun p hp => by
  rcases List.mem_cons.mp hp with rfl | hp
  · exact n1
  · exact Nat.ne_of_lt (n3 p hp)
theorem news_swap {h₀ h : Heap} {L : Addr} {x y z z2 : Addr × Obj} {l : Led} (N : News h₀ L h (x :: y :: z :: z2 :: l)) : News h₀ L h (y :: x :: l) := News.sub N (by
  intro p hp
  simp only [List.mem_cons] at hp ⊢
  rcases hp with h | h | h <;> simp [h])
theorem exc_hne {h₀ h : Heap} {L e t d C : Addr} {dd : Option Addr} {es : List DictEntry} {n : Nat} {l : Led} (N : News h₀ L h ((e, excO C t dd) :: (d, PySem.W.dictOf es n) :: l)) (n3 : ∀ p ∈ l, p.1 < e) : ∀ p ∈ (d, PySem.W.dictOf es n) :: l, p.1 ≠ e := fun p hp => by
  rcases List.mem_cons.mp hp with rfl | hp
  · intro q
    have a := (N _ List.mem_cons_self).1
    have b := (N _ (List.mem_cons_of_mem _ List.mem_cons_self)).1
    have q' : d = e := q
    rw [q', a] at b
    cases b
  · exact Nat.ne_of_lt (n3 p hp)
def wdO (P : Params) (at_ home amt : Int) (k1 k2 k3 k4 u1 u2 u3 u4 : Tok) (n : Nat) : Obj := PySem.W.dictOf [ent P (Str.ofString "index") k1 (.int at_ u1), ent P (Str.ofString "validator") k2 (.int 7 u2), ent P (Str.ofString "address") k3 (.int home u3), ent P (Str.ofString "amount") k4 (.int amt u4)] n
def taken (accs : List Acc) (home amt : Int) : Prop := 0 ≤ amt ∧ amt < 2 ^ 64 ∧ 0 ≤ home ∧ home < 2 ^ 160 ∧ totOf accs + amt * 1000000000 < 2 ^ 256
set_option maxHeartbeats 16000000 in
theorem withdraw_con {w : World} (V : StV) (rest : Led) (H : WF w V rest) (hnn : ∀ x ∈ V.accs, 0 ≤ x.bal) (wa wd : Addr) (at_ home amt : Int) (k1 k2 k3 k4 u1 u2 u3 u4 : Tok) (n : Nat) (h1 : (wa, instObj 70 wd) ∈ rest) (h2 : (wd, wdO w.params at_ home amt k1 k2 k3 k4 u1 u2 u3 u4 n) ∈ rest)
    (ha : V.accs.length ≤ 900) (hb : V.touched.length ≤ 900) (hc : V.rows.length ≤ 9000) :
    ConE w none 81 [.ref V.st, .ref wa] 30 300 (stL w.params V rest) (fun r l' => taken V.accs home amt ∧ UpPost w V rest home (fun c => { c with bal := balAt V.accs home + amt * 1000000000 }) (some (.bal home (balAt V.accs home))) .none l') (¬ taken V.accs home amt) := by
  intro mean mg mb dp un gd cn cs a ccd cl outer A₀ base h₀ L m s Q E B F X N T hk hd hu ret exc
  have hbal := balAt_le hnn home
  have hl : stL w.params V rest = (V.st, instObj 439 V.ds) :: (V.ds, stO w.params V) :: (V.da, V.oa) :: (V.dj, rowsO V.rows V.nj) :: (V.dt, V.ot) :: (V.dd, V.od) :: tlL w.params V.accs V.rows rest := rfl
  have hm1 : (wa, instObj 70 wd) ∈ tlL w.params V.accs V.rows rest := List.mem_append_right _ (List.mem_append_right _ h1)
  have hm2 : (wd, wdO w.params at_ home amt k1 k2 k3 k4 u1 u2 u3 u4 n) ∈ tlL w.params V.accs V.rows rest := List.mem_append_right _ (List.mem_append_right _ h2)
  unfold wdO at hm2
  rw [hl] at N
  generalize hT : tlL w.params V.accs V.rows rest = tl at N hm1 hm2
  k_dflt ktr_enter
  k_steps
  all_goals (unfold Halt)
  rotate_left
  iterate 4
    · focus
        k_dflt (refine exec_raise_exc (K := Mine.hd.heap_39 w.params) (C := 51) (by k_asm) (by k_is) ⟨by rfl, by rfl, by rfl, by rfl⟩ (by rfl) ?_)
        k_steps
        unfold Halt
        k_dflt (refine call_exc_own (K := Mine.hd.heap_39 w.params) (by k_asm) (by k_is) ⟨by rfl, by rfl, by rfl, by rfl⟩ (by k_is) (by k_is) (by k_asm) (by k_asm) ?_)
        intro h1 e1 t1 F1 N1 n1 n2 n3
        k_dflt (refine Con.useK (init35_con e1 t1 _ _ _ (ne_tail n1 n3)) init35_el (by k_asm) (by k_asm) (by k_asm) (by k_asm) (fun p hp => hp) (by k_asm) (by first | exact rfl | assumption) (by walk_at "DEP") (by walk_at "UNI") ?_)
        intro t2 d2 k2 n2 h2 tk2 F2 N2
        refine ⟨rfl, _, t2, some d2, rfl, F2.keep, (N2 _ (List.mem_cons_of_mem _ List.mem_cons_self)).1, ?_⟩
        k_steps
        unfold Halt
        rw [← hT, ← hl] at N2 n3
        have N3 := news_swap N2
        have hne3 := exc_hne N3 n3
        k_dflt (refine leave_excD (C := 51) (t := t2) (dd := some d2) (by k_asm) (by k_asm) N3 hne3 ?_ rfl)
        intro h3 R3 U3
        exact exc (by unfold taken; omega) _ e1 d2 k2 _ n2 h3 _ (by k_asm) U3 R3
  k_dflt (refine Con.useM (total_con V rest H) (by k_asm) (by k_asm) (by k_asm) (by k_asm) (fun p hp => (by rw [hl, hT] at hp; exact hp)) (by k_asm) (by first | exact rfl | assumption) (by walk_at "DEP") (by walk_at "UNI") ?_)
  intro h0 tk0 t0 F0 N0
  rw [hl, hT] at N0
  k_steps
  all_goals (unfold Halt)
  · focus
    k_dflt (refine exec_raise_exc (K := Mine.hd.heap_39 w.params) (C := 51) (by k_asm) (by k_is) ⟨by rfl, by rfl, by rfl, by rfl⟩ (by rfl) ?_)
    k_steps
    unfold Halt
    k_dflt (refine call_exc_own (K := Mine.hd.heap_39 w.params) (by k_asm) (by k_is) ⟨by rfl, by rfl, by rfl, by rfl⟩ (by k_is) (by k_is) (by k_asm) (by k_asm) ?_)
    intro h1 e1 t1 F1 N1 n1 n2 n3
    k_dflt (refine Con.useK (init35_con e1 t1 _ _ _ (ne_tail n1 n3)) init35_el (by k_asm) (by k_asm) (by k_asm) (by k_asm) (fun p hp => hp) (by k_asm) (by first | exact rfl | assumption) (by walk_at "DEP") (by walk_at "UNI") ?_)
    intro t2 d2 k2 n2 h2 tk2 F2 N2
    refine ⟨rfl, _, t2, some d2, rfl, F2.keep, (N2 _ (List.mem_cons_of_mem _ List.mem_cons_self)).1, ?_⟩
    k_steps
    unfold Halt
    rw [← hT, ← hl] at N2 n3
    have N3 := news_swap N2
    have hne3 := exc_hne N3 n3
    k_dflt (refine leave_excD (C := 51) (t := t2) (dd := some d2) (by k_asm) (by k_asm) N3 hne3 ?_ rfl)
    intro h3 R3 U3
    exact exc (by unfold taken; omega) _ e1 d2 k2 _ n2 h3 _ (by k_asm) U3 R3
  k_dflt (refine Con.useM (balance_con V rest H home _) (by k_asm) (by k_asm) (by k_asm) (by k_asm) (fun p hp => (by rw [hl, hT] at hp; exact hp)) (by k_asm) (by first | exact rfl | assumption) (by walk_at "DEP") (by walk_at "UNI") ?_)
  intro h4 tk4 t4 F4 N4
  rw [hl, hT] at N4
  k_steps
  unfold Halt
  have htk : taken V.accs home amt := by unfold taken; omega
  k_dflt (refine Con.use (set_balance_con V rest H home (balAt V.accs home + amt * 1000000000) _ _ ha hb hc (by omega) (by omega)) (by k_asm) (by k_asm) (by k_asm) (by k_asm) (fun p hp => (by rw [hl, hT] at hp; exact hp)) (by k_asm) (by first | exact rfl | assumption) (by walk_at "DEP") (by walk_at "UNI") ?_)
  intro r5 h5 tk5 l5 F5 N5 hP5
  have hP6 := hP5
  obtain ⟨accs', rs', oa', ot', nj', hr5, -⟩ := hP5
  subst hr5
  k_steps
  exact ret _ _ _ l5 (by k_asm) (by k_asm) ⟨htk, hP6⟩
-- PART 30: del of a dict's key; what is undone
section
variable {prog : Program} {w : World} {A : Around} {E : Value → Shared → Prop} {s : Shared} {h₀ : Heap} {L d : Addr} {m : Str → Option Value} {news : Led} {u : Obj → Led} {o : Obj} {kvs : List (Int × Value)} {k : Int} {t : Tok}
theorem del_int {Q : Unit → Shared → Prop} (F : Fr h₀ L s.heap m) (N : News h₀ L s.heap news) (U : UpdF d o news u) (hd : o.IsDictOf (PySem.intKind prog w) kvs) (hl : (valueAt kvs k).isSome = true) (hsz : kvs.length ≤ sizeLine)
    (h : ∀ h' o', Fr h₀ L h' m → News h₀ L h' (u o') → o'.IsDictOf (PySem.intKind prog w) (without kvs k) → Q () { s with heap := h', toks := s.toks + 1 }) : wpAny (model prog w) A (delItem (.ref d) (.int k t)) Q E s := by
  obtain ⟨pre, post, rfl, hg, a, b⟩ := U.split
  have hm := N (d, o) (List.mem_append_right _ (.head _))
  have hD : s.heap.DictOf (PySem.intKind prog w) d kvs := Heap.dictOf_iff.mpr ⟨o, hm.1, hd⟩
  unfold delItem
  try with_reducible refine wpAny_holding ?_
  refine wpAny_bind (wpAny_sequenceKey hD.typeIs (by decide) ?_)
  refine wpAny_bind (wpAny_callSpecial?_slot (name := Str.ofString "__delitem__") hD.typeIs PySem.F.slot_dict_delitem
    (call_meetsIn PySem.F.slot_dict_delitem hD.typeIs PySem.F.entry_dict_delitem (PySem.F.args_dict_delitem_2 _ _) (meets_dict_delitem_pairs (PySem.intKind prog w) d (intKind_is _ _ _ _)) ⟨kvs, hD, hsz, hl, fun h' hmm hs => ?_⟩))
  obtain ⟨o', ho', hd'⟩ := Heap.dictOf_iff.mp hmm
  exact wpAny_pure (h h' o' (F.change hs hm.2.1 hm.2.2) (hg o' ▸ N.setIn a b hs ho') hd')
end
def undo1 : List (Int × Ct) × List Int → Op → List (Int × Ct) × List Int
  | (cs, ts), .made k => (cs.filter fun z => decide (z.1 ≠ k), ts)
  | (cs, ts), .tch k => (cs, ts.filter fun z => decide (z ≠ k))
  | (cs, ts), .bal k b => (cs.map fun z => if z.1 = k then (k, { z.2 with bal := b }) else z, ts)
def okOp : List (Int × Ct) × List Int → Op → Prop
  | (cs, _), .made k => (ctAt cs k).isSome = true
  | (_, ts), .tch k => k ∈ ts
  | (cs, _), .bal k _ => (ctAt cs k).isSome = true
inductive Undo : List (Int × Ct) × List Int → List Op → List (Int × Ct) × List Int → Prop
  | nil {c : List (Int × Ct) × List Int} : Undo c [] c
  | snoc {c c0 : List (Int × Ct) × List Int} {o : Op} {os : List Op} : okOp c o → Undo (undo1 c o) os c0 → Undo c (os ++ [o]) c0
theorem Undo.trans {c c1 c0 : List (Int × Ct) × List Int} {os os' : List Op} (h : Undo c os' c1) (h' : Undo c1 os c0) : Undo c (os ++ os') c0 := by
  induction h with
  | nil => rw [List.append_nil]; exact h'
  | snoc ho _ ih =>
    rw [← List.append_assoc]
    exact .snoc ho (ih h')
theorem sub_flat {α β : Type} {l₁ l₂ : List α} {f : α → List β} (h : l₁.Sublist l₂) : (l₁.flatMap f).Sublist (l₂.flatMap f) := by
  induction h with
  | slnil => exact List.Sublist.refl _
  | cons a _ ih => rw [List.flatMap_cons]; exact List.Sublist.trans ih (List.sublist_append_right _ _)
  | cons_cons a _ ih => rw [List.flatMap_cons, List.flatMap_cons]; exact List.Sublist.append (List.Sublist.refl _) ih
theorem keys_sub {P : Params} {V : StV} {rest : Led} {accs : List Acc} {rows : List Rw} {ts : List Int} {oa ot : Obj} {nj : Nat} (h : (keys (stL P V rest)).Nodup) (ha : accs.Sublist V.accs) (hr : rows.Sublist V.rows) : (keys (stL P (V.put accs ts rows oa ot nj) rest)).Nodup := by
  rw [keys_st] at h ⊢
  refine List.Nodup.sublist ?_ h
  exact List.Sublist.append (List.Sublist.refl _) (List.Sublist.append (sub_flat ha) (List.Sublist.append (sub_flat hr) (List.Sublist.refl _)))
theorem kvs_without (accs : List Acc) (k : Int) : without (accKvs accs) k = accKvs (accs.filter fun x => decide (x.k ≠ k)) := by
  unfold without accKvs
  rw [List.filter_map]
  rfl
theorem tch_without (ks : List Int) (k : Int) : without (tchKvs ks) k = tchKvs (ks.filter fun x => decide (x ≠ k)) := by
  unfold without tchKvs
  rw [List.filter_map]
  rfl
theorem cont_without (accs : List Acc) (k : Int) : cont (accs.filter fun x => decide (x.k ≠ k)) = (cont accs).filter fun z => decide (z.1 ≠ k) := by
  unfold cont
  rw [List.filter_map]
  rfl
/-- what an undone row leaves -/
def UnPost (w : World) (V : StV) (rest : Led) (o : Op) (r : Value) (l' : Led) : Prop :=
  ∃ accs ts oa ot, r = .none ∧ l' = stL w.params (V.put accs ts V.rows oa ot V.nj) rest ∧ WF w (V.put accs ts V.rows oa ot V.nj) rest ∧ (cont accs, ts) = undo1 (cont V.accs, V.touched) o ∧ accs.length ≤ V.accs.length ∧ ts.length ≤ V.touched.length
theorem UnPost.el {w : World} {V : StV} {rest : Led} {o : Op} (M : Value → Led → Prop) (h : ∀ accs ts oa ot, WF w (V.put accs ts V.rows oa ot V.nj) rest → (cont accs, ts) = undo1 (cont V.accs, V.touched) o → M .none (stL w.params (V.put accs ts V.rows oa ot V.nj) rest)) : ∀ r l', UnPost w V rest o r l' → M r l' := by
  rintro r l' ⟨accs, ts, oa, ot, rfl, rfl, a, b, -, -⟩
  exact h accs ts oa ot a b
section
variable {w : World} {V : StV} {rest tl : Led} {k : Int} {h₀ h : Heap} {L : Addr} (H : WF w V rest) (hT : tlL w.params V.accs V.rows rest = tl)
include H
theorem un_made {o1 : Obj} (hd : o1.IsDictOf (PySem.intKind pw w) (without (accKvs V.accs) k)) (hT : tlL w.params V.accs V.rows rest = tl)
    (N : News h₀ L h ((V.st, instObj 439 V.ds) :: (V.ds, stO w.params V) :: (V.da, o1) :: (V.dj, rowsO V.rows V.nj) :: (V.dt, V.ot) :: (V.dd, V.od) :: tl)) : ∃ l', News h₀ L h l' ∧ UnPost w V rest (.made k) .none l' := by
  rw [kvs_without] at hd
  have hf : (V.accs.filter fun x => decide (x.k ≠ k)).Sublist V.accs := List.filter_sublist
  have hl := hf.length_le
  refine ⟨_, News.sub N (l' := stL w.params (V.put (V.accs.filter fun x => decide (x.k ≠ k)) V.touched V.rows o1 V.ot V.nj) rest) fun p hp => ?_, V.accs.filter fun x => decide (x.k ≠ k), V.touched, o1, V.ot, rfl, rfl, ⟨hd, H.ot, H.od, H.na, H.nt, H.nd, fun x hx => H.so x ((List.mem_filter.mp hx).1), fun x hx => H.ns x ((List.mem_filter.mp hx).1), Nat.le_trans hl H.sa, H.st, H.sr, keys_sub H.ap hf (List.Sublist.refl _)⟩, by rw [cont_without]; rfl, hl, Nat.le_refl _⟩
  unfold stL at hp
  simp only [List.mem_cons] at hp ⊢
  rcases hp with h | h | h | h | h | h | hp
  · exact .inl h
  · exact .inr (.inl h)
  · exact .inr (.inr (.inl h))
  · exact .inr (.inr (.inr (.inl h)))
  · exact .inr (.inr (.inr (.inr (.inl h))))
  · exact .inr (.inr (.inr (.inr (.inr (.inl h)))))
  · refine .inr (.inr (.inr (.inr (.inr (.inr ?_)))))
    rw [← hT]
    rcases List.mem_append.mp hp with q | q
    · obtain ⟨x, hx, hq⟩ := List.mem_flatMap.mp q
      exact List.mem_append_left _ (List.mem_flatMap.mpr ⟨x, (List.mem_filter.mp hx).1, hq⟩)
    · exact List.mem_append_right _ q
theorem un_tch {o1 : Obj} (hd : o1.IsDictOf (PySem.intKind pw w) (without (tchKvs V.touched) k)) (hT : tlL w.params V.accs V.rows rest = tl)
    (N : News h₀ L h ((V.st, instObj 439 V.ds) :: (V.ds, stO w.params V) :: (V.da, V.oa) :: (V.dj, rowsO V.rows V.nj) :: (V.dt, o1) :: (V.dd, V.od) :: tl)) : ∃ l', News h₀ L h l' ∧ UnPost w V rest (.tch k) .none l' := by
  rw [tch_without] at hd
  have hl : (V.touched.filter fun x => decide (x ≠ k)).length ≤ V.touched.length := List.length_filter_le _ _
  rw [← hT] at N
  exact ⟨_, N, V.accs, V.touched.filter fun x => decide (x ≠ k), V.oa, o1, rfl, rfl, ⟨H.oa, hd, H.od, H.na, H.nt, H.nd, H.so, H.ns, H.sa, Nat.le_trans hl H.st, H.sr, keys_sub H.ap (List.Sublist.refl _) (List.Sublist.refl _)⟩, rfl, Nat.le_refl _, hl⟩
theorem un_bal {A B : List Acc} {x x' : Acc} {b : Int} (hV : V.accs = A ++ x :: B) (hx : x.k = k) (hT : tlL w.params (A ++ B) V.rows rest = tl) (e1 : x'.k = x.k) (e2 : x'.a = x.a) (e3 : x'.d = x.d) (e4 : x'.sd = x.sd) (e5 : x'.so = x.so) (e6 : x'.sl = x.sl) (e7 : x'.ct = { x.ct with bal := b })
    (N : News h₀ L h ((V.st, instObj 439 V.ds) :: (V.ds, stO w.params V) :: (V.da, V.oa) :: (V.dj, rowsO V.rows V.nj) :: (V.dt, V.ot) :: (V.dd, V.od) :: (x.a, instObj 154 x.d) :: (x.d, accO w.params x') :: (x.sd, x.so) :: tl)) : ∃ l', News h₀ L h l' ∧ UnPost w V rest (.bal k b) .none l' := by
  have hc := H.chg hV e1 e2 e3 e4 (by rw [e5, e6]; exact H.so x (by rw [hV]; simp))
  have hu := updC_mid (A := A) (B := B) (x := x) (x' := x') (k := k) (f := fun c => { c with bal := b }) hx (e1.trans hx) e7 (by rw [← hV]; exact keys_nd H)
  have hE : ({ V with accs := A ++ x' :: B } : StV) = V.put (A ++ x' :: B) V.touched V.rows V.oa V.ot V.nj := rfl
  rw [hE] at hc
  refine ⟨_, News.sub N (l' := stL w.params (V.put (A ++ x' :: B) V.touched V.rows V.oa V.ot V.nj) rest) fun p hp => ?_, A ++ x' :: B, V.touched, V.oa, V.ot, rfl, rfl, hc, by rw [hu, ← hV]; rfl, by rw [hV]; simp, Nat.le_refl _⟩
  unfold stL at hp
  simp only [List.mem_cons] at hp ⊢
  rcases hp with h | h | h | h | h | h | hp
  · exact .inl h
  · exact .inr (.inl h)
  · exact .inr (.inr (.inl h))
  · exact .inr (.inr (.inr (.inl h)))
  · exact .inr (.inr (.inr (.inr (.inl h))))
  · exact .inr (.inr (.inr (.inr (.inr (.inl h)))))
  · refine .inr (.inr (.inr (.inr (.inr (.inr ?_)))))
    have q := tl_pull.mp hp
    rw [e2, e3, e4, e5, List.mem_cons, List.mem_cons, List.mem_cons] at q
    rw [← hT]
    exact q
end
theorem rows_snoc {rows : List Rw} (h : 0 < rows.length) : ∃ rows' R, rows = rows' ++ [R] := by
  rcases List.eq_nil_or_concat rows with rfl | ⟨l, b, hb⟩
  · exact absurd h (Nat.lt_irrefl 0)
  · exact ⟨l, b, by rw [hb, List.concat_eq_append]⟩
theorem pop_last (rows : List Rw) (R : Rw) : kl_last ((rows ++ [R]).map fun r => Value.ref r.a) = some (rows.map fun r => Value.ref r.a, Value.ref R.a) := by
  rw [List.map_append]
  exact kpa_last _ _
theorem pop_fits {rows : List Rw} {R : Rw} (h : (rows ++ [R]).length ≤ 10000) : (((rows ++ [R]).map fun r => Value.ref r.a).toArray).toList.length ≤ sizeLine := by
  show ((rows ++ [R]).map fun r => Value.ref r.a).length ≤ sizeLine
  rw [sizeLine_eq, List.length_map]
  omega
theorem kl_popU {prog : Program} {w : World} {A : Around} {E : Value → Shared → Prop} {s : Shared} {h₀ : Heap} {L D : Addr} {m : Str → Option Value} {its : Array Value} {n : Nat} {news news' : Led} {p : List Value} {y : Value} {Q : Value → Shared → Prop} (F : Fr h₀ L s.heap m) (N : News h₀ L s.heap news) (U : Upd D (PySem.W.listOf its n) (PySem.W.listOf p.toArray (n + 1)) news news') (e : kl_last its.toList = some (p, y))
    (hz : its.toList.length ≤ sizeLine) (h : ∀ h', Fr h₀ L h' m → News h₀ L h' news' → Q y { s with heap := h' }) : wpAny (model prog w) A (call (.builtin "list.pop") [.ref D]) Q E s := kl_pop F N e U hz h
theorem rows_4 : True := by
  k_with_none
  k_with "ALL" => first | assumption | exact ne_of_allLt (by assumption)
  k_with "LT2" => ((try dsimp only [AllLtK]); intros; (try refine ltk_tail fun _ => ?_))
  k_with "ROOM" => first | exact Nat.le_of_ble_eq_true rfl | exact bq2 (by assumption) (by rfl) | exact bq1 (by assumption) (by rfl) | exact bq3 (by assumption) (by rfl) | exact bq0 (by assumption) (by rfl) | ((simp only [depth_under_make, depth_under_kw, depth_in1, depth_deeper, depth_caller, rl]); omega)
  k_with "UNITS" => first | exact Nat.le_of_ble_eq_true rfl | exact bq2 (by assumption) (by rfl) | exact bq1 (by assumption) (by rfl) | exact bq3 (by assumption) (by rfl) | exact bq0 (by assumption) (by rfl) | ((have hcL9 := cLine_is); (simp only [units_in1, units_deeper, Around.mark_units, units_caller]); omega)
  k_with "compareOp In int ref" => (k_here; k_dflt (refine' kda_in (knd := PySem.intKind _ _) (by k_asm) (by k_mem) (by k_asm) (by k_asm) (intKind_is _ _ _ _) _ (by assumption) ?_))
  k_with "compareOp NotIn int ref" => (k_here; k_dflt (refine' kdg_notin (knd := PySem.intKind _ _) (by k_asm) (by k_mem) (by k_asm) (by k_asm) (intKind_is _ _ _ _) _ (by assumption) ?_); (try dsimp only [Bool.not_true, Bool.not_false]))
  k_with "getItem ref int" => (k_here; k_dflt (refine kdt_getItem (knd := PySem.intKind _ _) (by k_asm) (by k_mem) (by k_asm) (intKind_is _ _ _ _) (by first | assumption | exact valueAt_put _ _ _) ?_))
  k_with "subscriptTail" => (k_here; (with_reducible show wpAny _ _ (subscriptTail _ _ (Value.ref _) (Value.int _ _)) _ _ _); k_dflt (refine kdt_tail (knd := PySem.intKind _ _) (by k_asm) (by k_mem) (by k_asm) ?_))
  k_with "MEM" => ((repeat (first | exact List.mem_cons_self | assumption | refine List.mem_cons_of_mem _ ?_)); done)
  k_with "eval ListComp" => refine halt_ ?_
  k_with "exec For" => refine halt_ ?_
  k_with "exec While" => refine halt_ ?_
  k_with "call ref" => ((with_reducible first
  | show wpAny _ _ (call (Value.ref 81) _) _ _ _ | show wpAny _ _ (call (Value.ref 207) _) _ _ _ | show wpAny _ _ (call (Value.ref 214) _) _ _ _
  | show wpAny _ _ (call (Value.ref 247) _) _ _ _ | show wpAny _ _ (call (Value.ref 254) _) _ _ _ | show wpAny _ _ (call (Value.ref 282) _) _ _ _ | show wpAny _ _ (call (Value.ref 289) _) _ _ _
  | show wpAny _ _ (call (Value.ref 310) _) _ _ _ | show wpAny _ _ (call (Value.ref 324) _) _ _ _ | show wpAny _ _ (call (Value.ref 345) _) _ _ _ | show wpAny _ _ (call (Value.ref 422) _) _ _ _ | show wpAny _ _ (call (Value.ref 429) _) _ _ _ | show wpAny _ _ (call (Value.ref 436) _) _ _ _
  | show wpAny _ _ (call (Value.ref 450) _) _ _ _ | show wpAny _ _ (call (Value.ref 457) _) _ _ _ | show wpAny _ _ (call (Value.ref 462) _) _ _ _ | show wpAny _ _ (call (Value.ref 467) _) _ _ _ | show wpAny _ _ (call (Value.ref 474) _) _ _ _ | show wpAny _ _ (call (Value.ref 479) _) _ _ _ | show wpAny _ _ (call (Value.ref 486) _) _ _ _); refine halt_ ?_)
  k_with "SUB" => ((repeat (first | assumption | refine List.mem_cons_of_mem _ ?_)); done)
  k_with "setItem ref int" => (k_here; k_dflt (refine' kda_set (knd := PySem.intKind _ _) (by k_asm) (by k_asm) (by k_updF) (by k_asm) (intKind_is _ _ _ _) (by assumption) ?_); intro hz9 oz9 Fz9 Nz9 hdz9; (try dsimp only at Nz9); revert hz9 oz9 Fz9 Nz9 hdz9; intro _ _ _ _ _)
  k_with "call builtin:list.append" => (k_here; (with_reducible show wpAny _ _ (call (Value.builtin _) [Value.ref _, _]) _ _ _); k_dflt (refine' append_K (by k_asm) (by k_asm) (by k_upd) ?_ (by first | assumption | (simp only [Array.size_push, List.size_toArray, List.length_map, sizeLine_eq]; omega)); k_whole); intro _ _ _; (try k_sweep))
  k_with "execs cons" => ((with_reducible refine wpAny_execs_cons ?_); (try dsimp only); k_fold; (rename Flow → Shared → Prop => qz9); (rename Value → Shared → Prop => ez9))
  k_with "KSTEPS" => repeat' (first | (k_unfold; (try clear ez9); (try clear qz9); (try clear ek); (try clear qk); (try dsimp only)) | (k_end; kc_close) | walk1 | (dsimp only; walk1) | (leave1; walk_say "STEP leave1"; (try dsimp only)) | fail "no step")
  k_with "NE" => (refine neN ?_; (try dsimp only); first | assumption | (refine Ne.symm ?_; assumption) | (refine Nat.ne_of_lt ?_; first | assumption | (refine Nat.lt_trans ?_ (by assumption); assumption) | (refine Nat.lt_trans ?_ (by assumption); refine Nat.lt_trans ?_ (by assumption); assumption)) | (refine Nat.ne_of_gt ?_; first | assumption | (refine Nat.lt_trans ?_ (by assumption); assumption) | (refine Nat.lt_trans ?_ (by assumption); refine Nat.lt_trans ?_ (by assumption); assumption)))
  k_with "ENTC" => (refine' code_defC ?k1v0 ?k2v0 ?k3v0 ?k4v0 ?k5v0 ?kAv0 ?kFv0 ?kKv0 ?k6v0 ?k7v0 ?k8v0 ?k9v0 ?kBv0 ?kDv0 ?_ ?c2v0 ?c3v0 ?c4v0; (case kAv0 | kFv0 => exact rfl); (case kKv0 => first | exact rfl | assumption); (case k1v0 | k2v0 | k3v0 | k4v0 | k5v0 => k_asm); (case k6v0 | k7v0 => k_is); (case k8v0 => k_room); (case k9v0 => exact BindsTo.of_eq rfl); (case kBv0 => exact rfl); (case kDv0 => decide +kernel); (case c2v0 | c3v0 | c4v0 => exact rfl); k_whole; intro gz9 Lz9 hz9 tkz9 cz9 FGz9 Fz9 Nz9 Yz9 Bz9 Xz9 Tz9 l1z9; (try k_lt l1z9); k_cells Yz9; (try simp only [List.cons_append, List.nil_append] at Nz9); revert gz9 Lz9 hz9 tkz9; intros; (try dsimp only); (try k_fold))
  k_with "ENTC" => (refine' code_defC ?k1v1 ?k2v1 ?k3v1 ?k4v1 ?k5v1 ?kAv1 ?kFv1 ?kKv1 ?k6v1 ?k7v1 ?k8v1 ?k9v1 ?kBv1 ?kDv1 ?_ ?c2v1 ?c3v1 ?c4v1; (case kAv1 | kFv1 => exact rfl); (case kKv1 => first | exact rfl | assumption); (case k1v1 | k2v1 | k3v1 | k4v1 | k5v1 => k_asm); (case k6v1 | k7v1 => k_is); (case k8v1 => k_room); (case k9v1 => exact BindsTo.of_eq rfl); (case kBv1 => exact rfl); (case kDv1 => decide +kernel); (case c2v1 | c3v1 | c4v1 => exact rfl); k_whole; intro gz9 Lz9 hz9 tkz9 cz9 FGz9 Fz9 Nz9 Yz9 Bz9 Xz9 Tz9 l1z9; (try k_lt l1z9); k_cells Yz9; (try simp only [List.cons_append, List.nil_append] at Nz9); revert gz9 Lz9 hz9 tkz9; intros; (try dsimp only); (try k_fold))
  k_with "ENTC" => (refine' code_defC ?k1v2 ?k2v2 ?k3v2 ?k4v2 ?k5v2 ?kAv2 ?kFv2 ?kKv2 ?k6v2 ?k7v2 ?k8v2 ?k9v2 ?kBv2 ?kDv2 ?_ ?c2v2 ?c3v2 ?c4v2; (case kAv2 | kFv2 => exact rfl); (case kKv2 => first | exact rfl | assumption); (case k1v2 | k2v2 | k3v2 | k4v2 | k5v2 => k_asm); (case k6v2 | k7v2 => k_is); (case k8v2 => k_room); (case k9v2 => exact BindsTo.of_eq rfl); (case kBv2 => exact rfl); (case kDv2 => decide +kernel); (case c2v2 | c3v2 | c4v2 => exact rfl); k_whole; intro gz9 Lz9 hz9 tkz9 cz9 FGz9 Fz9 Nz9 Yz9 Bz9 Xz9 Tz9 l1z9; (try k_lt l1z9); k_cells Yz9; (try simp only [List.cons_append, List.nil_append] at Nz9); revert gz9 Lz9 hz9 tkz9; intros; (try dsimp only); (try k_fold))
  k_with "ENT" => (refine' code_def ?k1v0 ?k2v0 ?k3v0 ?k4v0 ?k5v0 ?kAv0 ?kFv0 ?kKv0 ?k6v0 ?k7v0 ?k8v0 ?k9v0 ?kBv0 ?_ ?c2v0 ?c3v0 ?c4v0 ?c5v0; (case kAv0 | kFv0 => exact rfl); (case kKv0 => first | exact rfl | assumption); (case k1v0 | k2v0 | k3v0 | k4v0 | k5v0 => k_asm); (case k6v0 | k7v0 => k_is); (case k8v0 => k_room); (case k9v0 => exact BindsTo.of_eq rfl); (case c5v0 => decide); (case kBv0 => exact locs rfl); (case c2v0 | c3v0 | c4v0 => exact rfl); k_whole; intro _ _ _ _ _ _ _ _ _; (try dsimp only); (try k_fold))
  k_with "ENT" => (refine' code_def ?k1v1 ?k2v1 ?k3v1 ?k4v1 ?k5v1 ?kAv1 ?kFv1 ?kKv1 ?k6v1 ?k7v1 ?k8v1 ?k9v1 ?kBv1 ?_ ?c2v1 ?c3v1 ?c4v1 ?c5v1; (case kAv1 | kFv1 => exact rfl); (case kKv1 => first | exact rfl | assumption); (case k1v1 | k2v1 | k3v1 | k4v1 | k5v1 => k_asm); (case k6v1 | k7v1 => k_is); (case k8v1 => k_room); (case k9v1 => exact BindsTo.of_eq rfl); (case c5v1 => decide); (case kBv1 => exact locs rfl); (case c2v1 | c3v1 | c4v1 => exact rfl); k_whole; intro _ _ _ _ _ _ _ _ _; (try dsimp only); (try k_fold))
  k_with "ENT" => (refine' code_def ?k1v2 ?k2v2 ?k3v2 ?k4v2 ?k5v2 ?kAv2 ?kFv2 ?kKv2 ?k6v2 ?k7v2 ?k8v2 ?k9v2 ?kBv2 ?_ ?c2v2 ?c3v2 ?c4v2 ?c5v2; (case kAv2 | kFv2 => exact rfl); (case kKv2 => first | exact rfl | assumption); (case k1v2 | k2v2 | k3v2 | k4v2 | k5v2 => k_asm); (case k6v2 | k7v2 => k_is); (case k8v2 => k_room); (case k9v2 => exact BindsTo.of_eq rfl); (case c5v2 => decide); (case kBv2 => exact locs rfl); (case c2v2 | c3v2 | c4v2 => exact rfl); k_whole; intro _ _ _ _ _ _ _ _ _; (try dsimp only); (try k_fold))
  k_with "ENT" => (refine' code_def ?k1v3 ?k2v3 ?k3v3 ?k4v3 ?k5v3 ?kAv3 ?kFv3 ?kKv3 ?k6v3 ?k7v3 ?k8v3 ?k9v3 ?kBv3 ?_ ?c2v3 ?c3v3 ?c4v3 ?c5v3; (case kAv3 | kFv3 => exact rfl); (case kKv3 => first | exact rfl | assumption); (case k1v3 | k2v3 | k3v3 | k4v3 | k5v3 => k_asm); (case k6v3 | k7v3 => k_is); (case k8v3 => k_room); (case k9v3 => exact BindsTo.of_eq rfl); (case c5v3 => decide); (case kBv3 => exact locs rfl); (case c2v3 | c3v3 | c4v3 => exact rfl); k_whole; intro _ _ _ _ _ _ _ _ _; (try dsimp only); (try k_fold))
  k_with "ENT" => (refine' code_def ?k1v4 ?k2v4 ?k3v4 ?k4v4 ?k5v4 ?kAv4 ?kFv4 ?kKv4 ?k6v4 ?k7v4 ?k8v4 ?k9v4 ?kBv4 ?_ ?c2v4 ?c3v4 ?c4v4 ?c5v4; (case kAv4 | kFv4 => exact rfl); (case kKv4 => first | exact rfl | assumption); (case k1v4 | k2v4 | k3v4 | k4v4 | k5v4 => k_asm); (case k6v4 | k7v4 => k_is); (case k8v4 => k_room); (case k9v4 => exact BindsTo.of_eq rfl); (case c5v4 => decide); (case kBv4 => exact locs rfl); (case c2v4 | c3v4 | c4v4 => exact rfl); k_whole; intro _ _ _ _ _ _ _ _ _; (try dsimp only); (try k_fold))
  k_with "ENT" => (refine' code_def ?k1v5 ?k2v5 ?k3v5 ?k4v5 ?k5v5 ?kAv5 ?kFv5 ?kKv5 ?k6v5 ?k7v5 ?k8v5 ?k9v5 ?kBv5 ?_ ?c2v5 ?c3v5 ?c4v5 ?c5v5; (case kAv5 | kFv5 => exact rfl); (case kKv5 => first | exact rfl | assumption); (case k1v5 | k2v5 | k3v5 | k4v5 | k5v5 => k_asm); (case k6v5 | k7v5 => k_is); (case k8v5 => k_room); (case k9v5 => exact BindsTo.of_eq rfl); (case c5v5 => decide); (case kBv5 => exact locs rfl); (case c2v5 | c3v5 | c4v5 => exact rfl); k_whole; intro _ _ _ _ _ _ _ _ _; (try dsimp only); (try k_fold))
  k_with "ENT" => (refine' code_def ?k1v6 ?k2v6 ?k3v6 ?k4v6 ?k5v6 ?kAv6 ?kFv6 ?kKv6 ?k6v6 ?k7v6 ?k8v6 ?k9v6 ?kBv6 ?_ ?c2v6 ?c3v6 ?c4v6 ?c5v6; (case kAv6 | kFv6 => exact rfl); (case kKv6 => first | exact rfl | assumption); (case k1v6 | k2v6 | k3v6 | k4v6 | k5v6 => k_asm); (case k6v6 | k7v6 => k_is); (case k8v6 => k_room); (case k9v6 => exact BindsTo.of_eq rfl); (case c5v6 => decide); (case kBv6 => exact locs rfl); (case c2v6 | c3v6 | c4v6 => exact rfl); k_whole; intro _ _ _ _ _ _ _ _ _; (try dsimp only); (try k_fold))
  k_with "ENT" => (refine' code_def ?k1v7 ?k2v7 ?k3v7 ?k4v7 ?k5v7 ?kAv7 ?kFv7 ?kKv7 ?k6v7 ?k7v7 ?k8v7 ?k9v7 ?kBv7 ?_ ?c2v7 ?c3v7 ?c4v7 ?c5v7; (case kAv7 | kFv7 => exact rfl); (case kKv7 => first | exact rfl | assumption); (case k1v7 | k2v7 | k3v7 | k4v7 | k5v7 => k_asm); (case k6v7 | k7v7 => k_is); (case k8v7 => k_room); (case k9v7 => exact BindsTo.of_eq rfl); (case c5v7 => decide); (case kBv7 => exact locs rfl); (case c2v7 | c3v7 | c4v7 => exact rfl); k_whole; intro _ _ _ _ _ _ _ _ _; (try dsimp only); (try k_fold))
  k_with "ENT" => (refine' code_def ?k1v8 ?k2v8 ?k3v8 ?k4v8 ?k5v8 ?kAv8 ?kFv8 ?kKv8 ?k6v8 ?k7v8 ?k8v8 ?k9v8 ?kBv8 ?_ ?c2v8 ?c3v8 ?c4v8 ?c5v8; (case kAv8 | kFv8 => exact rfl); (case kKv8 => first | exact rfl | assumption); (case k1v8 | k2v8 | k3v8 | k4v8 | k5v8 => k_asm); (case k6v8 | k7v8 => k_is); (case k8v8 => k_room); (case k9v8 => exact BindsTo.of_eq rfl); (case c5v8 => decide); (case kBv8 => exact locs rfl); (case c2v8 | c3v8 | c4v8 => exact rfl); k_whole; intro _ _ _ _ _ _ _ _ _; (try dsimp only); (try k_fold))
  k_with "ENT" => (refine' code_def ?k1v9 ?k2v9 ?k3v9 ?k4v9 ?k5v9 ?kAv9 ?kFv9 ?kKv9 ?k6v9 ?k7v9 ?k8v9 ?k9v9 ?kBv9 ?_ ?c2v9 ?c3v9 ?c4v9 ?c5v9; (case kAv9 | kFv9 => exact rfl); (case kKv9 => first | exact rfl | assumption); (case k1v9 | k2v9 | k3v9 | k4v9 | k5v9 => k_asm); (case k6v9 | k7v9 => k_is); (case k8v9 => k_room); (case k9v9 => exact BindsTo.of_eq rfl); (case c5v9 => decide); (case kBv9 => exact locs rfl); (case c2v9 | c3v9 | c4v9 => exact rfl); k_whole; intro _ _ _ _ _ _ _ _ _; (try dsimp only); (try k_fold))
  k_with "ENT" => (refine' code_def ?k1v10 ?k2v10 ?k3v10 ?k4v10 ?k5v10 ?kAv10 ?kFv10 ?kKv10 ?k6v10 ?k7v10 ?k8v10 ?k9v10 ?kBv10 ?_ ?c2v10 ?c3v10 ?c4v10 ?c5v10; (case kAv10 | kFv10 => exact rfl); (case kKv10 => first | exact rfl | assumption); (case k1v10 | k2v10 | k3v10 | k4v10 | k5v10 => k_asm); (case k6v10 | k7v10 => k_is); (case k8v10 => k_room); (case k9v10 => exact BindsTo.of_eq rfl); (case c5v10 => decide); (case kBv10 => exact locs rfl); (case c2v10 | c3v10 | c4v10 => exact rfl); k_whole; intro _ _ _ _ _ _ _ _ _; (try dsimp only); (try k_fold))
  k_with "ENT" => (refine' code_def ?k1v11 ?k2v11 ?k3v11 ?k4v11 ?k5v11 ?kAv11 ?kFv11 ?kKv11 ?k6v11 ?k7v11 ?k8v11 ?k9v11 ?kBv11 ?_ ?c2v11 ?c3v11 ?c4v11 ?c5v11; (case kAv11 | kFv11 => exact rfl); (case kKv11 => first | exact rfl | assumption); (case k1v11 | k2v11 | k3v11 | k4v11 | k5v11 => k_asm); (case k6v11 | k7v11 => k_is); (case k8v11 => k_room); (case k9v11 => exact BindsTo.of_eq rfl); (case c5v11 => decide); (case kBv11 => exact locs rfl); (case c2v11 | c3v11 | c4v11 => exact rfl); k_whole; intro _ _ _ _ _ _ _ _ _; (try dsimp only); (try k_fold))
  k_with "ENT" => (refine' code_def ?k1v12 ?k2v12 ?k3v12 ?k4v12 ?k5v12 ?kAv12 ?kFv12 ?kKv12 ?k6v12 ?k7v12 ?k8v12 ?k9v12 ?kBv12 ?_ ?c2v12 ?c3v12 ?c4v12 ?c5v12; (case kAv12 | kFv12 => exact rfl); (case kKv12 => first | exact rfl | assumption); (case k1v12 | k2v12 | k3v12 | k4v12 | k5v12 => k_asm); (case k6v12 | k7v12 => k_is); (case k8v12 => k_room); (case k9v12 => exact BindsTo.of_eq rfl); (case c5v12 => decide); (case kBv12 => exact locs rfl); (case c2v12 | c3v12 | c4v12 => exact rfl); k_whole; intro _ _ _ _ _ _ _ _ _; (try dsimp only); (try k_fold))
  k_with "ENT" => (refine' code_def ?k1v13 ?k2v13 ?k3v13 ?k4v13 ?k5v13 ?kAv13 ?kFv13 ?kKv13 ?k6v13 ?k7v13 ?k8v13 ?k9v13 ?kBv13 ?_ ?c2v13 ?c3v13 ?c4v13 ?c5v13; (case kAv13 | kFv13 => exact rfl); (case kKv13 => first | exact rfl | assumption); (case k1v13 | k2v13 | k3v13 | k4v13 | k5v13 => k_asm); (case k6v13 | k7v13 => k_is); (case k8v13 => k_room); (case k9v13 => exact BindsTo.of_eq rfl); (case c5v13 => decide); (case kBv13 => exact locs rfl); (case c2v13 | c3v13 | c4v13 => exact rfl); k_whole; intro _ _ _ _ _ _ _ _ _; (try dsimp only); (try k_fold))
  k_with "DEP" => first | exact Nat.le_of_ble_eq_true rfl | exact bq2 (by assumption) (by rfl) | exact bq1 (by assumption) (by rfl) | exact bq3 (by assumption) (by rfl) | exact bq0 (by assumption) (by rfl) | ((try simp only [weight_make, depth_under_make, depth_under_kw, depth_in1, depth_deeper, depth_caller]); (try dsimp only); omega)
  k_with "UNI" => first | exact Nat.le_of_ble_eq_true rfl | exact bq2 (by assumption) (by rfl) | exact bq1 (by assumption) (by rfl) | exact bq3 (by assumption) (by rfl) | exact bq0 (by assumption) (by rfl) | ((try simp only [cunits_make, units_under_make, units_in1, units_deeper, Around.mark_units, units_caller]); (try dsimp only); omega)
  k_with "LTS" => ((try simp only [AllLt, and_true] at *); (repeat (rename _ ∧ _ => hcj; obtain ⟨_, _⟩ := hcj)))
  k_with "call ref" => (k_here; (with_reducible show wpAny _ _ (call (Value.ref 196) _) _ _ _); k_dflt (refine row_use (by k_asm) (by k_asm) (by k_asm) (by k_asm) (by k_asm) (by first | exact rfl | assumption) (by walk_at "DEP") (by walk_at "UNI") ?_); intro _ _ _ _ _ _ _ _ l1z9 _ _; refine ltk_elim l1z9 ?_; clear l1z9; walk_at "LT2"; (try k_sweep))
  k_with "call ref" => (k_here; (with_reducible show wpAny _ _ (call (Value.ref 165) _) _ _ _); k_dflt (refine acc_use (by k_asm) (by k_asm) (by k_asm) (by k_asm) (by k_asm) (by first | exact rfl | assumption) (by walk_at "DEP") (by walk_at "UNI") ?_); intro _ _ _ _ _ _ _ _ _ _ _ l1z9 _ _; refine ltk_elim l1z9 ?_; clear l1z9; walk_at "LT2"; (try k_sweep))
  k_with "delItem ref int" => (k_here; k_dflt (refine' del_int (by k_asm) (by k_asm) (by k_updF) (by k_asm) (by assumption) (by assumption) ?_); intro hz9 oz9 Fz9 Nz9 hdz9; (try dsimp only at Nz9); revert hz9 oz9 Fz9 Nz9 hdz9; intro _ _ _ _ _)
  k_with "call builtin:len" => (k_here; (with_reducible show wpAny _ _ (call (Value.builtin "len") [Value.ref _]) _ _ _); k_dflt (refine len_list (News.isList (by k_asm) (by k_mem)) (by simp only [List.size_toArray, List.length_map]; omega) ?_); (try simp only [List.size_toArray, List.length_map]))
  k_with "call builtin:list.pop" => (k_here; k_dflt (refine' kl_popU (by k_asm) (by k_asm) (by k_upd) (by exact pop_last _ _) (by exact pop_fits (by assumption)) ?_; k_whole); intro _ _ _; (try k_sweep))
  trivial
-- PART 31: undone walked
theorem pull_sub {P : Params} {V : StV} {rest : Led} {A B : List Acc} {x : Acc} {y z : Addr × Obj} (hs : V.accs = A ++ x :: B) : ∀ p ∈ y :: z :: (V.st, instObj 439 V.ds) :: (V.ds, stO P V) :: (V.da, V.oa) :: (V.dj, rowsO V.rows V.nj) :: (V.dt, V.ot) :: (V.dd, V.od) :: (x.a, instObj 154 x.d) :: (x.d, accO P x) :: (x.sd, x.so) :: tlL P (A ++ B) V.rows rest, p ∈ y :: z :: stL P V rest := by
  intro p hp
  have q := @tl_pull P A B x V.rows rest p
  unfold stL
  rw [hs]
  simp only [List.mem_cons] at hp q ⊢
  rcases hp with h | h | h | h | h | h | h | h | h
  · exact .inl h
  · exact .inr (.inl h)
  · exact .inr (.inr (.inl h))
  · exact .inr (.inr (.inr (.inl h)))
  · exact .inr (.inr (.inr (.inr (.inl h))))
  · exact .inr (.inr (.inr (.inr (.inr (.inl h)))))
  · exact .inr (.inr (.inr (.inr (.inr (.inr (.inl h))))))
  · exact .inr (.inr (.inr (.inr (.inr (.inr (.inr (.inl h)))))))
  · exact .inr (.inr (.inr (.inr (.inr (.inr (.inr (.inr (q.mpr h))))))))
set_option maxHeartbeats 8000000 in
theorem undone_con {w : World} {hv0 : Option Value} (V : StV) (rest : Led) (H : WF w V rest) (R : Rw) (o : Op) (hR : RowIs R o) (hok : okOp (cont V.accs, V.touched) o) (hap : ∀ p ∈ stL w.params V rest, @Ne Nat p.1 R.a ∧ @Ne Nat p.1 R.d) :
    Con w hv0 214 [.ref V.st, .ref R.a] 10 100 ((R.a, instObj 196 R.d) :: (R.d, rowO w.params R) :: stL w.params V rest) (UnPost w V rest o) := by
  intro mean mg mb dp un gd cn cs a ccd cl outer A₀ base h₀ L m s Q E B F X N T hk hd hu ret
  have hoa := H.oa
  have hna := H.na
  have hot := H.ot
  have hnt := H.nt
  obtain ⟨c01, c02, c03, c04, c05, c12, c13, c14, c15, c23, c24, c25, c34, c35, c45, z0, z1, z2, z3, z4, z5⟩ := ap_of H.ap
  have hsz := H.sz
  have hszt := H.szt
  obtain ⟨Ra, Rd, kind, addr, key, old, rt1, rt2, rt3, rt4, ru1, ru2, ru3, rn⟩ := R
  have a0 := hap (V.st, instObj 439 V.ds) (.head _)
  have a1 := hap (V.ds, stO w.params V) (.tail _ (.head _))
  have a2 := hap (V.da, V.oa) (.tail _ (.tail _ (.head _)))
  have a3 := hap (V.dj, rowsO V.rows V.nj) (.tail _ (.tail _ (.tail _ (.head _))))
  have a4 := hap (V.dt, V.ot) (.tail _ (.tail _ (.tail _ (.tail _ (.head _)))))
  have a5 := hap (V.dd, V.od) (.tail _ (.tail _ (.tail _ (.tail _ (.tail _ (.head _))))))
  have a6 : ∀ p ∈ tlL w.params V.accs V.rows rest, @Ne Nat p.1 Ra ∧ @Ne Nat p.1 Rd := fun p hp => hap p (.tail _ (.tail _ (.tail _ (.tail _ (.tail _ (.tail _ hp))))))
  unfold rowO at N
  dsimp only at a0 a1 a2 a3 a4 a5 a6 N ⊢
  obtain ⟨b0, d0⟩ := a0
  obtain ⟨b1, d1⟩ := a1
  obtain ⟨b2, d2⟩ := a2
  obtain ⟨b3, d3⟩ := a3
  obtain ⟨b4, d4⟩ := a4
  obtain ⟨b5, d5⟩ := a5
  clear hap
  cases o with
  | made k =>
    obtain ⟨e1, e2⟩ := hR
    dsimp only at e1 e2
    subst e1 e2
    have hk2 : (valueAt (accKvs V.accs) addr).isSome = true := by rw [valueAt_acc]; have h := hok; unfold okOp at h; dsimp only at h; rw [ctAt_cont] at h; simpa using h
    unfold stL at N
    generalize hT : tlL w.params V.accs V.rows rest = tl at N z0 z1 z2 z3 z4 z5 a6
    k_dflt ktr_enter
    k_steps
    obtain ⟨l9, N9, P9⟩ := un_made H (k := addr) (by assumption) hT (News.sub (by k_asm) (fun p hp => .tail _ (.tail _ (.tail _ hp))))
    exact ret _ _ _ l9 (by k_asm) N9 P9
  | tch k =>
    obtain ⟨e1, e2⟩ := hR
    dsimp only at e1 e2
    subst e1 e2
    have hk2 : (valueAt (tchKvs V.touched) addr).isSome = true := tch_in hok
    unfold stL at N
    generalize hT : tlL w.params V.accs V.rows rest = tl at N z0 z1 z2 z3 z4 z5 a6
    k_dflt ktr_enter
    k_steps
    obtain ⟨l9, N9, P9⟩ := un_tch H (k := addr) (by assumption) hT (News.sub (by k_asm) (fun p hp => .tail _ (.tail _ (.tail _ hp))))
    exact ret _ _ _ l9 (by k_asm) N9 P9
  | bal k b =>
    obtain ⟨e1, e2, tb, e3⟩ := hR
    dsimp only at e1 e2 e3
    subst e1 e2 e3
    have hk2 : (accAt V.accs addr).isSome = true := by have h := hok; unfold okOp at h; dsimp only at h; rw [ctAt_cont] at h; simpa using h
    obtain ⟨x, hx⟩ := Option.isSome_iff_exists.mp hk2
    have hv := valueAt_acc V.accs addr
    rw [hx] at hv
    simp only [Option.map_some] at hv
    obtain ⟨A1, B1, hs⟩ := acc_split hx
    have hxk := (accAt_mem hx).2
    have ax := apx_of hs H.ap
    have N1 := News.sub N (l' := (Ra, instObj 196 Rd) :: (Rd, PySem.W.dictOf [ent w.params (Str.ofString "kind") rt1 (.str (Str.ofString "balance") ru1), ent w.params (Str.ofString "address") rt2 (.int addr ru2), ent w.params (Str.ofString "key") rt3 (.int key ru3), ent w.params (Str.ofString "old") rt4 (.int b tb)] rn) :: (V.st, instObj 439 V.ds) :: (V.ds, stO w.params V) :: (V.da, V.oa) :: (V.dj, rowsO V.rows V.nj) :: (V.dt, V.ot) :: (V.dd, V.od) :: (x.a, instObj 154 x.d) :: (x.d, accO w.params x) :: (x.sd, x.so) :: tlL w.params (A1 ++ B1) V.rows rest) (pull_sub hs)
    clear N
    have a7 : @Ne Nat x.d Ra ∧ @Ne Nat x.d Rd := a6 (x.d, accO w.params x) (by rw [hs]; exact tl_pull.mpr (.tail _ (.head _)))
    obtain ⟨b7, d7⟩ := a7
    obtain ⟨x1, x2, x3, x4, x5, x6, x7, x8, x9, x10, x11⟩ := ax
    clear a6 z0 z1 z2 z3 z4 z5
    generalize hT : tlL w.params (A1 ++ B1) V.rows rest = tl at N1 x11
    k_dflt ktr_enter
    k_steps
    unfold Halt
    k_dflt ktr_enter
    k_steps
    obtain ⟨l9, N9, P9⟩ := un_bal (x' := { x with bal := b, u2 := tb }) (b := b) H hs hxk hT rfl rfl rfl rfl rfl rfl rfl (News.sub (by k_asm) (fun p hp => .tail _ (.tail _ (.tail _ hp))))
    exact ret _ _ _ l9 (by k_asm) N9 P9
-- PART 32: back
theorem rowsAre_snoc {rows : List Rw} {R : Rw} {os : List Op} (h : RowsAre (rows ++ [R]) os) : ∃ os' o, os = os' ++ [o] ∧ RowsAre rows os' ∧ RowIs R o := by
  induction rows generalizing os with
  | nil =>
    cases h with
    | cons a b => cases b with | nil => exact ⟨[], _, rfl, .nil, a⟩
  | cons x r ih =>
    cases h with
    | cons a b =>
      obtain ⟨os', o, rfl, h1, h2⟩ := ih b
      exact ⟨_ :: os', o, rfl, .cons a h1, h2⟩
theorem undo_snoc {c c0 : List (Int × Ct) × List Int} {os : List Op} {o : Op} (h : Undo c (os ++ [o]) c0) : okOp c o ∧ Undo (undo1 c o) os c0 := by
  generalize hq : os ++ [o] = os2 at h
  cases h with
  | nil => simp at hq
  | snoc ho hu =>
    obtain ⟨e1, e2⟩ := List.append_inj' hq rfl
    cases e2
    subst e1
    exact ⟨ho, hu⟩
theorem undo_nil {c c0 : List (Int × Ct) × List Int} (h : Undo c [] c0) : c = c0 := by
  generalize hq : ([] : List Op) = os2 at h
  cases h with
  | nil => rfl
  | snoc ho hu => simp at hq
theorem WF.pop {w : World} {V : StV} {rest : Led} {accs : List Acc} {ts : List Int} {rows : List Rw} {R : Rw} {oa ot : Obj} {nj nj' : Nat} (H : WF w (V.put accs ts (rows ++ [R]) oa ot nj) rest) :
    WF w (V.put accs ts rows oa ot nj') rest ∧ ∀ p ∈ stL w.params (V.put accs ts rows oa ot nj') rest, @Ne Nat p.1 R.a ∧ @Ne Nat p.1 R.d := by
  have hk := H.ap
  have hr := H.sr
  have hr' : (rows ++ [R]).length ≤ 10000 := hr
  rw [List.length_append] at hr'
  refine ⟨⟨H.oa, H.ot, H.od, H.na, H.nt, H.nd, H.so, H.ns, H.sa, H.st, (by show rows.length ≤ 10000; omega), keys_sub (V := V.put accs ts (rows ++ [R]) oa ot nj) hk (List.Sublist.refl _) (List.sublist_append_left _ _)⟩, fun p hp => ?_⟩
  rw [keys_st] at hk
  have e : (rows ++ [R]).flatMap (fun r => [r.a, r.d]) = rows.flatMap (fun r => [r.a, r.d]) ++ [R.a, R.d] := by rw [List.flatMap_append]; rfl
  have hk' : (cells V ++ (accs.flatMap (fun x => [x.a, x.d, x.sd]) ++ ((rows ++ [R]).flatMap (fun r => [r.a, r.d]) ++ keys rest))).Nodup := hk
  rw [e] at hk'
  have pm : (cells V ++ (accs.flatMap (fun x => [x.a, x.d, x.sd]) ++ ((rows.flatMap (fun r => [r.a, r.d]) ++ [R.a, R.d]) ++ keys rest))).Perm ([R.a, R.d] ++ (cells V ++ (accs.flatMap (fun x => [x.a, x.d, x.sd]) ++ (rows.flatMap (fun r => [r.a, r.d]) ++ keys rest)))) := by
    have q := perm_grow (cells V) (accs.flatMap (fun x => [x.a, x.d, x.sd])) (rows.flatMap (fun r => [r.a, r.d])) [] [R.a, R.d] (keys rest)
    simpa using q
  rw [pm.nodup_iff, List.nodup_append] at hk'
  have hm : p.1 ∈ keys (stL w.params (V.put accs ts rows oa ot nj') rest) := List.mem_map_of_mem hp
  rw [keys_st] at hm
  exact ⟨fun q => hk'.2.2 R.a (by simp) p.1 hm q.symm, fun q => hk'.2.2 R.d (by simp) p.1 hm q.symm⟩
theorem pop_sub {P : Params} {V : StV} {rest : Led} {accs : List Acc} {ts : List Int} {rows : List Rw} {R : Rw} {oa ot : Obj} {nj : Nat} {tl : Led} (hT : tlL P accs (rows ++ [R]) rest = tl) :
    ∀ p ∈ (R.a, instObj 196 R.d) :: (R.d, rowO P R) :: stL P (V.put accs ts rows oa ot nj) rest, p ∈ (V.st, instObj 439 V.ds) :: (V.ds, stO P V) :: (V.da, oa) :: (V.dj, PySem.W.listOf (rows.map fun r => Value.ref r.a).toArray nj) :: (V.dt, ot) :: (V.dd, V.od) :: tl := by
  intro p hp
  have q : ∀ p ∈ tlL P accs rows rest, p ∈ tl := fun p hp => by
    rw [← hT]
    unfold tlL at hp ⊢
    rw [List.flatMap_append]
    simp only [List.mem_append] at hp ⊢
    rcases hp with h | h | h
    · exact .inl h
    · exact .inr (.inl (.inl h))
    · exact .inr (.inr h)
  have q2 : (R.a, instObj 196 R.d) ∈ tl ∧ (R.d, rowO P R) ∈ tl := by rw [← hT]; exact row_in (by simp)
  unfold stL at hp
  simp only [List.mem_cons] at hp ⊢
  rcases hp with h | h | h | h | h | h | h | h | h
  · exact .inr (.inr (.inr (.inr (.inr (.inr (h ▸ q2.1))))))
  · exact .inr (.inr (.inr (.inr (.inr (.inr (h ▸ q2.2))))))
  · exact .inl h
  · exact .inr (.inl h)
  · exact .inr (.inr (.inl h))
  · exact .inr (.inr (.inr (.inl h)))
  · exact .inr (.inr (.inr (.inr (.inl h))))
  · exact .inr (.inr (.inr (.inr (.inr (.inl h)))))
  · exact .inr (.inr (.inr (.inr (.inr (.inr (q p h))))))
theorem rows_size (rows : List Rw) : ((rows.map fun r => Value.ref r.a).toArray).size = rows.length := by simp
section
variable {prog : Program} {w : World} {A : Around} {E : Value → Shared → Prop} {Q : Flow → Shared → Prop} {s : Shared} {env : Env} {h₀ : Heap} {L : Addr}
theorem While_keep {test : Expr} {body : List Stmt} {pos : Pos} {m : Str → Option Value} {news : Led} (J : Nat → Led → Prop) {n₀ : Nat} (F : Fr h₀ L s.heap m) (N : News h₀ L s.heap news) (hJ : J n₀ news)
    (turn : ∀ n news₁ h₁ tk₁, Fr h₀ L h₁ m → News h₀ L h₁ news₁ → J n news₁ →
      wpAny (model prog w) A (isTrue test env (eval test env)) (fun b s₂ => if b = true then wpAny (model prog w) A (execs body env) (WhileStep2 h₀ L s (fun n m' nx => m' = m ∧ J n nx) Q n) E s₂ else Q .next s₂) E { s with heap := h₁, toks := tk₁ })
    (hE : PassesOwn (model prog w) A env E := by passes_own) : wpAny (model prog w) A (exec (.While test body [] pos) env) Q E s :=
  While_inv2 (fun n m' nx => m' = m ∧ J n nx) F N ⟨rfl, hJ⟩ (fun n m₁ news₁ h₁ tk₁ F₁ N₁ hj => by
    obtain ⟨rfl, hj⟩ := hj
    exact turn n news₁ h₁ tk₁ F₁ N₁ hj) hE
end
set_option maxHeartbeats 8000000 in
theorem back_con {w : World} {hv0 : Option Value} (V : StV) (rest : Led) (H : WF w V rest) (os : List Op) (c0 : List (Int × Ct) × List Int) (hr : RowsAre V.rows os) (hu0 : Undo (cont V.accs, V.touched) os c0) (t : Tok) :
    Con w hv0 422 [.ref V.st, .int 0 t] 20 200 (stL w.params V rest) (fun r l' => ∃ accs ts oa ot nj, r = .none ∧ l' = stL w.params (V.put accs ts [] oa ot nj) rest ∧ WF w (V.put accs ts [] oa ot nj) rest ∧ (cont accs, ts) = c0) := by
  intro mean mg mb dp un gd cn cs a ccd cl outer A₀ base h₀ L m s Q E B F X N T hk hd hu ret
  k_dflt ktr_enter
  k_steps
  unfold Halt
  k_dflt (refine While_keep (fun n nx => ∃ accs ts rows oa ot nj os1, n = rows.length ∧ nx = stL w.params (V.put accs ts rows oa ot nj) rest ∧ WF w (V.put accs ts rows oa ot nj) rest ∧ RowsAre rows os1 ∧ Undo (cont accs, ts) os1 c0) (n₀ := V.rows.length) (by k_asm) (by k_asm) ⟨V.accs, V.touched, V.rows, V.oa, V.ot, V.nj, os, rfl, rfl, H, hr, hu0⟩ ?_)
  intro n nx h₁ tk₁ F₁ N₁ hJ9
  (try k_fold)
  obtain ⟨accs, ts, rows, oa, ot, nj, os1, hn, rfl, H1, hr1, hu1⟩ := hJ9
  have hszr : rows.length ≤ 10000 := H1.sr
  have hl : ∀ rs : List Rw, stL w.params (V.put accs ts rs oa ot nj) rest = (V.st, instObj 439 V.ds) :: (V.ds, stO w.params V) :: (V.da, oa) :: (V.dj, PySem.W.listOf (rs.map fun r => Value.ref r.a).toArray nj) :: (V.dt, ot) :: (V.dd, V.od) :: tlL w.params accs rs rest := fun _ => rfl
  rw [hl] at N₁
  obtain ⟨c01, c02, c03, c04, c05, c12, c13, c14, c15, c23, c24, c25, c34, c35, c45, z0, z1, z2, z3, z4, z5⟩ : Ap V (tlL w.params accs rows rest) := (by have z := ap_of H1.ap; exact ⟨z.c01, z.c02, z.c03, z.c04, z.c05, z.c12, z.c13, z.c14, z.c15, z.c23, z.c24, z.c25, z.c34, z.c35, z.c45, z.t0, z.t1, z.t2, z.t3, z.t4, z.t5⟩)
  generalize hT : tlL w.params accs rows rest = tl at N₁ z0 z1 z2 z3 z4 z5
  k_steps
  · obtain ⟨rows', R, rfl⟩ : ∃ rows' R, rows = rows' ++ [R] := rows_snoc (by omega)
    k_steps
    unfold Halt
    obtain ⟨os', o, rfl, hr2, hr3⟩ := rowsAre_snoc hr1
    obtain ⟨hu2, hu3⟩ := undo_snoc hu1
    obtain ⟨H2, hap⟩ := WF.pop (nj' := nj + 1) H1
    k_dflt (refine Con.useK (undone_con (V.put accs ts rows' oa ot (nj + 1)) rest H2 R o hr3 hu2 hap) UnPost.el (by k_asm) (by k_asm) (by k_asm) (by k_asm) (pop_sub hT) (by k_asm) (by first | exact rfl | assumption) (by walk_at "DEP") (by walk_at "UNI") ?_)
    intro accs5 ts5 oa5 ot5 H5 e5 h5 tk5 F5 N5
    k_steps
    exact ⟨_, _, _, _, rows'.length, rfl, F5, N5, by rw [hn, List.length_append]; exact Nat.lt_succ_self _, rfl, accs5, ts5, rows', oa5, ot5, nj + 1, os', rfl, rfl, H5, hr2, by rw [e5]; exact hu3⟩
  · have hnil : rows = [] := List.eq_nil_of_length_eq_zero (by omega)
    subst hnil
    have hos : os1 = [] := by cases hr1; rfl
    subst hos
    have e9 := undo_nil hu1
    subst hT
    exact ret _ _ _ (stL w.params (V.put accs ts [] oa ot nj) rest) (by k_asm) (by k_asm) ⟨accs, ts, oa, ot, nj, rfl, rfl, H1, e9⟩
-- PART 40: sorted(a dict of int keys)
section
variable {prog : Program} {w : World} {A : Around} {E : Value → Shared → Prop} {s : Shared} {h₀ : Heap} {L d D : Addr} {m : Str → Option Value} {news : Led} {o : Obj} {kvs : List (Int × Value)} {Q : Value → Shared → Prop}
theorem sort_head {vs : List Value} {ns : List Int} {n : Nat} (F : Fr h₀ L s.heap m) (N : News h₀ L s.heap ((D, PySem.W.listOf vs.toArray n) :: news)) (hne : ∀ q ∈ news, q.1 < D) (hI : IntsAre vs ns) (h64 : vs.length < 64)
    (h : ∀ h' vs' ns' c, Fr h₀ L h' m → News h₀ L h' ((D, PySem.W.listOf vs'.toArray c) :: news) → IntsAre vs' ns' → ns'.Perm ns → ns'.Pairwise (· ≤ ·) → Q .none { s with heap := h' }) :
    wpAny (model prog w) A (call (.builtin "list.sort") [.ref D]) Q E s := by
  have z := N _ List.mem_cons_self
  have ho : s.heap.get? D = some (seqObj "list" vs.toArray n) := z.1
  refine wpAny_call_entry PyProof.Rows.slot_list_sort ⟨_, z.1, rfl⟩ PyProof.Rows.entry_list_sort (list_sort_tree (n := n) (vs := vs) ho hI h64 fun out ns' a1 a2 a3 => ⟨.none, rfl, ?_⟩) (PyProof.Rows.args_list_sort _)
  obtain ⟨e, he⟩ := sortedHeap_at (out := out) ho
  have keep : ∀ b o, b ≠ D → s.heap.get? b = some o → (sortedHeap s.heap D vs out).get? b = some o := fun b o hb hbo => (sortedHeap_old hb (Heap.lt_size hbo)).trans hbo
  obtain ⟨oL, es, ep, hoL, hdL, hrL⟩ := F.ns
  refine h _ out.toList ns' e ⟨⟨oL, es, ep, keep _ _ (Ne.symm z.2.1) hoL, hdL, hrL⟩, fun b o hb => keep b o (fun q => by rw [q, z.2.2] at hb; cases hb) (F.keep b o hb), F.above⟩ (fun p hp => ?_) a1 a2 a3
  rcases List.mem_cons.mp hp with rfl | hp
  · refine ⟨?_, z.2⟩
    rw [Array.toArray_toList]
    exact he
  · have y := N p (List.mem_cons_of_mem _ hp)
    exact ⟨keep _ _ (Nat.ne_of_lt (hne p hp)) y.1, y.2⟩
theorem sorted_dict (hh : A.handled = none) (F : Fr h₀ L s.heap m) (N : News h₀ L s.heap news) (hm : (d, o) ∈ news) (hd : o.IsDictOf (PySem.intKind prog w) kvs) (lo : (d == sysModules) = false) (h64 : kvs.length < 64)
    (h : ∀ D vs' ns' c h' tk, Fr h₀ L h' m → News h₀ L h' ((D, PySem.W.listOf vs'.toArray c) :: news) → (∀ q ∈ news, q.1 < D) → IntsAre vs' ns' → ns'.Perm (kvs.map (·.1)) → ns'.Pairwise (· ≤ ·) → Q (.ref D) { s with heap := h', toks := tk }) :
    wpAny (model prog w) A (call (.builtin "sorted") [.ref d]) Q E s := by
  have hD : s.heap.DictOf (PySem.intKind prog w) d kvs := Heap.dictOf_iff.mpr ⟨o, (N _ hm).1, hd⟩
  obtain ⟨ep, hat⟩ := hD.dictAt
  refine kdu_sorted (kdl_dict (knd := PySem.intKind prog w) (kvs := kvs) (ep := ep) lo) hh F N hat (by rw [sizeLine_eq]; omega) fun B h' tk vs F' N' l1 hl hv => ?_
  have hI : IntsAre vs (kvs.map (·.1)) := kdy_ints (by rw [hl, List.length_map]) fun j u hu => by
    obtain ⟨k, x, hx, hk⟩ := hv j u hu
    obtain ⟨t, rfl⟩ := Value.isInt_shape hk
    exact ⟨k, by rw [List.getElem?_map, hx]; rfl, t, rfl⟩
  refine sort_head (s := { s with heap := h', toks := tk }) F' N' l1 hI (by rw [hl]; exact h64) fun h2 vs' ns' c F2 N2 i1 i2 i3 => ?_
  exact h B vs' ns' c h2 tk F2 N2 l1 i1 i2 i3
end
-- PART 41: for over a list, by an invariant of the ledger
section
variable {prog : Program} {w : World} {A : Around} {E : Value → Shared → Prop} {Q : Flow → Shared → Prop} {s : Shared} {env : Env} {h₀ : Heap} {target : Expr} {body : List Stmt}
theorem unr_mono {L : Addr} {s₁ s₂ : Shared} {its : Led} {f : Flow} {R R' : (Str → Option Value) → Led → Prop} (h : UnrPostW h₀ L s₁ its R Q f s₂) (hr : ∀ m' nx, (∀ p ∈ nx, ∀ q ∈ its, p.1 ≠ q.1) → R m' nx → R' m' nx) : UnrPostW h₀ L s₁ its R' Q f s₂ := by
  cases f with
  | ret v => exact h
  | brk => exact h
  | next =>
    obtain ⟨h', tk, m', nx, e, F, N, ho, r⟩ := h
    exact ⟨h', tk, m', nx, e, F, N, ho, hr m' nx ho r⟩
  | cont =>
    obtain ⟨h', tk, m', nx, e, F, N, ho, r⟩ := h
    exact ⟨h', tk, m', nx, e, F, N, ho, hr m' nx ho r⟩
def LocOff (st : List Str) (m₀ m : Str → Option Value) : Prop := ∀ y, st.contains y = false → m y = m₀ y
theorem LocOff.eq {st : List Str} {m₀ m : Str → Option Value} (h : LocOff st m₀ m) : m = fun y => if st.contains y then m y else m₀ y := by
  funext y
  cases hy : st.contains y with
  | true => simp
  | false => simp only [Bool.false_eq_true, if_false]; exact h y hy
/-- what a turn must show at its end -/
abbrev TurnJ (h₀ : Heap) (L : Addr) (s : Shared) (I : Addr) (oI : Obj) (st : List Str) (m₀ : Str → Option Value) (J : Led → Prop) (Q : Flow → Shared → Prop) : Flow → Shared → Prop :=
  UnrPostW h₀ L s [(I, oI)] (fun m' nx => LocOff st m₀ m' ∧ J nx) Q
theorem items_inv {I : Addr} {it : String} {keep : Led} (st : List Str) (m₀ : Str → Option Value) (J : Nat → Led → Prop) :
    ∀ (xs : List Itm) (i : Nat) (m : Str → Option Value) (news : Led), LocOff st m₀ m → J i news → (∀ p ∈ news, p.1 ≠ I) →
      (∀ j nx, J j nx → SubL keep nx) →
      (∀ j a v (u : Str → Option Value) nx oI h tk, xs[j]? = some a → a.Is v h → J (i + j) nx → (∀ p ∈ nx, p.1 ≠ I) → oI.cls = .type it → Fr h₀ env.locals h (fun y => if st.contains y then u y else m₀ y) → News h₀ env.locals h ((I, oI) :: nx) →
        wpAny (model prog w) A (assign target env v) (fun _ s₂ => wpAny (model prog w) A (execs body env) (TurnJ h₀ env.locals { s with heap := h, toks := tk } I oI st m₀ (J (i + j + 1)) Q) E s₂) E { s with heap := h, toks := tk }) →
      (∀ (u : Str → Option Value) nx h tk, J (i + xs.length) nx → (∀ p ∈ nx, p.1 ≠ I) → Fr h₀ env.locals h (fun y => if st.contains y then u y else m₀ y) → News h₀ env.locals h nx → Q .next { s with heap := h, toks := tk }) →
      ItemsRest prog w A E h₀ env target body Q s [(I, it)] keep xs m news := by
  intro xs
  induction xs with
  | nil =>
    intro i m news hm hJ hI hk turn fin h tk F N
    refine fin m news h tk hJ hI ?_ N
    rw [← hm.eq]; exact F
  | cons a r ih =>
    intro i m news hm hJ hI hk turn fin v h tk ha F oI ho N
    have F' : Fr h₀ env.locals h (fun y => if st.contains y then m y else m₀ y) := by rw [← hm.eq]; exact F
    have t := turn 0 a v m news oI h tk rfl ha hJ hI ho F' N
    refine wpAny_mono t (fun _ s₂ h₂ => wpAny_mono h₂ (fun f s₃ p => ?_) fun _ _ e => e) fun _ _ e => e
    refine unr_mono p fun m' nx off ⟨q1, q2⟩ => ⟨hk _ nx q2, ih (i + 1) m' nx q1 q2 (fun p hp => off p hp _ (List.mem_singleton.mpr rfl)) hk (fun j a v u nx oI h tk e1 e2 e3 => ?_) fun u nx h tk e3 => ?_⟩
    · have e : i + 1 + j = i + (j + 1) := by omega
      rw [e] at e3 ⊢
      exact turn (j + 1) a v u nx oI h tk e1 e2 e3
    · have e : i + 1 + r.length = i + (r.length + 1) := by omega
      rw [e] at e3
      exact fin u nx h tk e3
theorem For_list {iter : Expr} {pos : Pos} {m₀ : Str → Option Value} (st : List Str) (F₀ : Fr h₀ env.locals s.heap m₀)
    (h : wpAny (model prog w) A (eval iter env) (fun xv s₁ => ∃ (ax : Addr) (vs : List Value) (n : Nat) (news : Led) (J : Nat → Led → Prop), xv = .ref ax ∧ A.handled = none ∧ Fr h₀ env.locals s₁.heap m₀ ∧ News h₀ env.locals s₁.heap news ∧ J 0 news ∧ (∀ j nx, J j nx → (ax, PySem.W.listOf vs.toArray n) ∈ nx) ∧
      (∀ j v (u : Str → Option Value) nx I oI h tk, vs[j]? = some v → J j nx → (∀ p ∈ nx, p.1 ≠ I) → oI.cls = .type "list_iterator" → Fr h₀ env.locals h (fun y => if st.contains y then u y else m₀ y) → News h₀ env.locals h ((I, oI) :: nx) →
        wpAny (model prog w) A (assign target env v) (fun _ s₂ => wpAny (model prog w) A (execs body env) (TurnJ h₀ env.locals { s₁ with heap := h, toks := tk } I oI st m₀ (J (j + 1)) Q) E s₂) E { s₁ with heap := h, toks := tk }) ∧
      (∀ (u : Str → Option Value) nx h tk, J vs.length nx → Fr h₀ env.locals h (fun y => if st.contains y then u y else m₀ y) → News h₀ env.locals h nx → Q .next { s₁ with heap := h, toks := tk })) E s)
    (hs : ∀ x, foldedSetIterable iter env x = pure x := by intro _; rfl)
    (hE : PassesOwn (model prog w) A env E := by passes_own) :
    wpAny (model prog w) A (exec (.For target iter body [] pos) env) Q E s := by
  refine For_turns F₀ (wpAny_mono h (fun xv s₁ h₁ => ?_) fun _ _ e => e) hs hE
  obtain ⟨ax, vs, n, news, J, rfl, hh, F, N, hJ, hk, turn, fin⟩ := h₁
  refine iter_listTurns hh F N (hk _ _ hJ) rfl rfl fun I hI => ?_
  refine items_inv st m₀ J (vs.map .val) 0 m₀ news (fun _ _ => rfl) hJ (fun p hp => Nat.ne_of_lt (hI p hp)) (fun j nx hj => ⟨hk j nx hj, trivial⟩) (fun j a v u nx oI h tk e1 e2 e3 e4 e5 e6 e7 => ?_) fun u nx h tk e3 e4 => ?_
  · rw [List.getElem?_map] at e1
    obtain ⟨v', hv, rfl⟩ := Option.map_eq_some_iff.mp e1
    have e2' : v = v' := e2
    subst e2'
    rw [Nat.zero_add] at e3 ⊢
    exact turn j v u nx I oI h tk hv e3 e4 e5 e6 e7
  · rw [Nat.zero_add, List.length_map] at e3
    exact fin u nx h tk e3
end
section
variable {prog : Program} {w : World} {A : Around} {E : Value → Shared → Prop} {s : Shared} {h₀ : Heap} {L : Addr} {m : Str → Option Value} {news : Led}
theorem add_listsK {l b : Addr} {vs ws : List Value} {Q : Value → Shared → Prop} (F : Fr h₀ L s.heap m) (N : News h₀ L s.heap news) (hl : s.heap.IsList l vs.toArray) (hb : s.heap.IsList b ws.toArray) (hsz : vs.length + ws.length ≤ sizeLine)
    (h : ∀ D h', Fr h₀ L h' m → News h₀ L h' ((D, PySem.W.listOf (vs ++ ws).toArray 0) :: news) → (∀ p ∈ news, p.1 < D) → Q (.ref D) { s with heap := h' }) :
    wpAny (model prog w) A (binaryOp .Add (.ref l) (.ref b)) Q E s :=
  add_lists (hsz := hsz) F N hl hb fun h' F' N' => h _ h' F' N' fun p hp => Heap.lt_size (N p hp).1
end
theorem WF.more {w : World} {V : StV} {rest : Led} {D : Addr} {o : Obj} (H : WF w V rest) (hD : ∀ p ∈ stL w.params V rest, @Ne Nat p.1 D) : WF w V ((D, o) :: rest) :=
  ⟨H.oa, H.ot, H.od, H.na, H.nt, H.nd, H.so, H.ns, H.sa, H.st, H.sr, by
    have h := H.ap
    rw [keys_st] at h ⊢
    have pm : (cells V ++ (V.accs.flatMap (fun x => [x.a, x.d, x.sd]) ++ (V.rows.flatMap (fun r => [r.a, r.d]) ++ keys ((D, o) :: rest)))).Perm (D :: (cells V ++ (V.accs.flatMap (fun x => [x.a, x.d, x.sd]) ++ (V.rows.flatMap (fun r => [r.a, r.d]) ++ keys rest)))) := by
      have e : keys ((D, o) :: rest) = [D] ++ keys rest := rfl
      rw [e]
      have q := perm_grow (cells V) (V.accs.flatMap (fun x => [x.a, x.d, x.sd])) (V.rows.flatMap (fun r => [r.a, r.d])) [] [D] (keys rest)
      simpa using q
    rw [pm.nodup_iff, List.nodup_cons]
    refine ⟨fun hm => ?_, h⟩
    rw [← keys_st w.params] at hm
    obtain ⟨p, hp, e⟩ := List.mem_map.mp hm
    exact hD p hp e⟩
theorem WF.less {w : World} {V : StV} {rest : Led} {D : Addr} {o : Obj} (H : WF w V ((D, o) :: rest)) : WF w V rest ∧ ∀ p ∈ stL w.params V rest, @Ne Nat p.1 D := by
  have h := H.ap
  rw [keys_st] at h
  have pm : (cells V ++ (V.accs.flatMap (fun x => [x.a, x.d, x.sd]) ++ (V.rows.flatMap (fun r => [r.a, r.d]) ++ keys ((D, o) :: rest)))).Perm (D :: (cells V ++ (V.accs.flatMap (fun x => [x.a, x.d, x.sd]) ++ (V.rows.flatMap (fun r => [r.a, r.d]) ++ keys rest)))) := by
    have e : keys ((D, o) :: rest) = [D] ++ keys rest := rfl
    rw [e]
    have q := perm_grow (cells V) (V.accs.flatMap (fun x => [x.a, x.d, x.sd])) (V.rows.flatMap (fun r => [r.a, r.d])) [] [D] (keys rest)
    simpa using q
  rw [pm.nodup_iff, List.nodup_cons, ← keys_st w.params] at h
  exact ⟨⟨H.oa, H.ot, H.od, H.na, H.nt, H.nd, H.so, H.ns, H.sa, H.st, H.sr, h.2⟩, fun p hp e => h.1 (List.mem_map.mpr ⟨p, hp, e⟩)⟩
theorem st_app (P : Params) (V : StV) (r : Led) : stL P V r = stL P V [] ++ r := by
  unfold stL tlL
  rw [List.append_nil, ← List.append_assoc]
  rfl
theorem st_more {P : Params} {V : StV} {rest : Led} {D : Addr} {o : Obj} {p : Addr × Obj} : p ∈ stL P V ((D, o) :: rest) ↔ p ∈ (D, o) :: stL P V rest := by
  rw [st_app P V ((D, o) :: rest), st_app P V rest]
  exact List.perm_middle.mem_iff
theorem rows_5 : True := by
  k_with "call builtin:sorted" => ((with_reducible show wpAny _ _ (call (Value.builtin "sorted") [Value.ref _]) _ _ _); refine halt_ ?_)
  k_with "binaryOp Add ref ref" => ((with_reducible show wpAny _ _ (binaryOp _ (Value.ref _) (Value.ref _)) _ _ _); refine halt_ ?_)
  trivial
-- PART 42: end
def Ct.emp (c : Ct) : Bool := decide (c.nonce = 0) && (decide (c.bal = 0) && decide (c.code = #[]))
def keepC (S : List Int) (z : Int × Ct) : Bool := !(decide (z.1 ∈ S) && z.2.emp)
def keep1 (k : Int) (z : Int × Ct) : Bool := !(decide (z.1 = k) && z.2.emp)
theorem keepC_succ {ns : List Int} {j : Nat} {k : Int} (h : ns[j]? = some k) (cs : List (Int × Ct)) : cs.filter (keepC (ns.take (j + 1))) = (cs.filter (keepC (ns.take j))).filter (keep1 k) := by
  have e : ns.take (j + 1) = ns.take j ++ [k] := by rw [List.take_succ, h]; rfl
  rw [e, List.filter_filter]
  refine List.filter_congr fun z _ => ?_
  unfold keepC keep1
  simp only [List.mem_append, List.mem_singleton]
  by_cases h1 : z.1 ∈ ns.take j <;> by_cases h2 : z.1 = k <;> cases z.2.emp <;> simp [h1, h2]
theorem filt_none {cs : List (Int × Ct)} {k : Int} (h : ctAt cs k = none) : cs.filter (keep1 k) = cs := by
  refine List.filter_eq_self.mpr fun z hz => ?_
  unfold ctAt at h
  have h' := List.find?_eq_none.mp (Option.map_eq_none_iff.mp h) z hz
  unfold keep1
  simp at h'
  simp [h']
theorem find_uniq {cs : List (Int × Ct)} {k : Int} {y : Int × Ct} (hn : (cs.map (·.1)).Nodup) (hy : cs.find? (fun x => decide (x.1 = k)) = some y) : ∀ z ∈ cs, z.1 = k → z = y := by
  induction cs with
  | nil => cases hy
  | cons x r ih =>
    rw [List.map_cons, List.nodup_cons] at hn
    intro z hz hk
    rw [List.find?_cons] at hy
    by_cases hx : x.1 = k
    · simp only [hx, decide_true] at hy
      cases hy
      rcases List.mem_cons.mp hz with rfl | hz
      · rfl
      · exact absurd (List.mem_map.mpr ⟨z, hz, hk.trans hx.symm⟩) hn.1
    · simp only [hx, decide_false] at hy
      rcases List.mem_cons.mp hz with rfl | hz
      · exact absurd hk hx
      · exact ih hn.2 hy z hz hk
theorem ct_uniq {cs : List (Int × Ct)} {k : Int} {c : Ct} (hn : (cs.map (·.1)).Nodup) (h : ctAt cs k = some c) : ∀ z ∈ cs, z.1 = k → z.2 = c := by
  unfold ctAt at h
  obtain ⟨y, hy, rfl⟩ := Option.map_eq_some_iff.mp h
  intro z hz hk
  rw [find_uniq hn hy z hz hk]
theorem filt_some {cs : List (Int × Ct)} {k : Int} {c : Ct} (hn : (cs.map (·.1)).Nodup) (h : ctAt cs k = some c) (he : c.emp = false) : cs.filter (keep1 k) = cs := by
  refine List.filter_eq_self.mpr fun z hz => ?_
  unfold keep1
  by_cases hk : z.1 = k
  · rw [ct_uniq hn h z hz hk, he]; simp
  · simp [hk]
theorem filt_emp {cs : List (Int × Ct)} {k : Int} {c : Ct} (hn : (cs.map (·.1)).Nodup) (h : ctAt cs k = some c) (he : c.emp = true) : cs.filter (keep1 k) = cs.filter fun z => decide (z.1 ≠ k) := by
  refine List.filter_congr fun z hz => ?_
  unfold keep1
  by_cases hk : z.1 = k
  · rw [ct_uniq hn h z hz hk, he]; simp [hk]
  · simp [hk]
theorem keepC0 (cs : List (Int × Ct)) : cs.filter (keepC []) = cs := List.filter_eq_self.mpr fun x _ => by simp [keepC]
theorem ints_at {vs : List Value} {ns : List Int} (h : IntsAre vs ns) : ∀ {j : Nat} {v : Value}, vs[j]? = some v → ∃ k t, ns[j]? = some k ∧ v = .int k t := by
  induction h with
  | nil => intro j v e; simp at e
  | cons k t r ih =>
    intro j v e
    cases j with
    | zero => simp at e; exact ⟨k, t, rfl, e.symm⟩
    | succ j => simpa using ih (by simpa using e)
theorem loc1 {x : Str} {v : Value} {u m₀ : Str → Option Value} : LocOff [x] m₀ (fun y => if y = x then some v else if ([x] : List Str).contains y then u y else m₀ y) := fun y hy => by
  have h1 : y ≠ x := by rintro rfl; simp at hy
  simp only [if_neg h1, hy, Bool.false_eq_true, if_false]
theorem st_back {w : World} {V : StV} {rest : Led} {h₀ h : Heap} {L I : Addr} {oI : Obj} (H : WF w V ((I, oI) :: rest)) (N : News h₀ L h (stL w.params V ((I, oI) :: rest))) : News h₀ L h ([(I, oI)] ++ stL w.params V rest) ∧ (∀ p ∈ stL w.params V rest, ∀ q ∈ [(I, oI)], p.1 ≠ q.1) ∧ WF w V rest :=
  ⟨fun p hp => N p (st_more.mpr hp), fun p hp q hq => by rw [List.mem_singleton.mp hq]; exact H.less.2 p hp, H.less.1⟩
theorem end_sub {D1 D2 D3 : Addr} {o1 o2 o3 : Obj} {l : Led} {p : Addr × Obj} (h : p ∈ (D3, o3) :: l) : p ∈ (D3, o3) :: (D2, o2) :: (D1, o1) :: l := by
  simp only [List.mem_cons] at h ⊢
  rcases h with h | h <;> simp [h]
def StV.clear (V : StV) (dj dt dd : Addr) (ot od : Obj) (vw vx vo : Value) : StV := { V with dj := dj, dt := dt, dd := dd, ot := ot, od := od, vw := vw, vx := vx, vo := vo, rows := [], touched := [], nj := 0 }
def EndPost0 (w : World) (V : StV) (rest : Led) (l' : Led) : Prop := ∃ dj dt dd ot od vw vx vo, l' = stL w.params (V.clear dj dt dd ot od vw vx vo) rest ∧ WF w (V.clear dj dt dd ot od vw vx vo) rest
def EndPost (w : World) (V : StV) (rest : Led) (r : Value) (l' : Led) : Prop := ∃ V', r = .none ∧ l' = stL w.params V' rest ∧ WF w V' rest ∧ V'.st = V.st ∧ cont V'.accs = (cont V.accs).filter (keepC V.touched) ∧ V'.touched = [] ∧ V'.rows = []
theorem EndPost.el {w : World} {V : StV} {rest : Led} (M : Value → Led → Prop) (h : ∀ V' : StV, WF w V' rest → V'.st = V.st → cont V'.accs = (cont V.accs).filter (keepC V.touched) → V'.touched = [] → V'.rows = [] → M .none (stL w.params V' rest)) : ∀ r l', EndPost w V rest r l' → M r l' := by
  rintro r l' ⟨V', rfl, rfl, a, b, c, d, e⟩
  exact h V' a b c d e
theorem EndPost0.to {w : World} {V : StV} {rest l' : Led} {accs : List Acc} {oa ot : Obj} {ns : List Int} {n : Nat} (h : EndPost0 w (V.put accs V.touched V.rows oa ot V.nj) rest l') (hac : cont accs = (cont V.accs).filter (keepC (ns.take n))) (hn : n = ns.length) (hp : ns.Perm V.touched) : EndPost w V rest .none l' := by
  obtain ⟨dj, dt, dd, ot, od, vw, vx, vo, h1, h2⟩ := h
  refine ⟨_, rfl, h1, h2, rfl, ?_, rfl, rfl⟩
  show cont accs = _
  rw [hac, hn, List.take_length]
  refine List.filter_congr fun z _ => ?_
  unfold keepC
  rw [decide_eq_decide.mpr hp.mem_iff]
theorem end_fin {w : World} {V : StV} {rest tl : Led} {h₀ h : Heap} {L : Addr} {dj dt dd d1 d2 d3 : Addr} {ot od o1 o2 o3 : Obj} (H : WF w V rest) (hT : tlL w.params V.accs V.rows rest = tl)
    (N : News h₀ L h ((d3, o3) :: (d2, o2) :: (d1, o1) :: (dd, od) :: (dt, ot) :: (dj, PySem.W.listOf #[] 0) :: (V.st, instObj 439 V.ds) :: (V.ds, stO w.params (V.clear dj dt dd ot od (.ref d1) (.ref d2) (.ref d3))) :: (V.da, V.oa) :: (V.dj, rowsO V.rows V.nj) :: (V.dt, V.ot) :: (V.dd, V.od) :: tl))
    (hot : ot.IsDictOf (PySem.intKind pw w) []) (hod : od.IsDictOf (PySem.intKind pw w) []) (nt : (dt == sysModules) = false) (nd : (dd == sysModules) = false) (l1 : @LT.lt Nat _ dj dt) (l2 : @LT.lt Nat _ dt dd) (b0 : @LT.lt Nat _ V.st dj) (b1 : @LT.lt Nat _ V.ds dj) (b2 : @LT.lt Nat _ V.da dj) (b6 : AllLt dj tl) : ∃ l', News h₀ L h l' ∧ EndPost0 w V rest l' := by
  refine ⟨stL w.params (V.clear dj dt dd ot od (.ref d1) (.ref d2) (.ref d3)) rest, News.sub N fun p hp => ?_, dj, dt, dd, ot, od, .ref d1, .ref d2, .ref d3, rfl, ⟨H.oa, hot, hod, H.na, nt, nd, H.so, H.ns, H.sa, Nat.zero_le _, Nat.zero_le _, ?_⟩⟩
  · have q : ∀ p ∈ tlL w.params V.accs [] rest, p ∈ tl := fun p hp => by
      rw [← hT]
      unfold tlL at hp ⊢
      simp only [List.mem_append, List.flatMap_nil, List.nil_append] at hp ⊢
      rcases hp with h | h <;> simp [h]
    unfold stL at hp
    simp only [List.mem_cons] at hp ⊢
    rcases hp with h | h | h | h | h | h | h
    · exact .inr (.inr (.inr (.inr (.inr (.inr (.inl h))))))
    · exact .inr (.inr (.inr (.inr (.inr (.inr (.inr (.inl h)))))))
    · exact .inr (.inr (.inr (.inr (.inr (.inr (.inr (.inr (.inl h))))))))
    · exact .inr (.inr (.inr (.inr (.inr (.inl h)))))
    · exact .inr (.inr (.inr (.inr (.inl h))))
    · exact .inr (.inr (.inr (.inl h)))
    · exact .inr (.inr (.inr (.inr (.inr (.inr (.inr (.inr (.inr (.inr (.inr (.inr (q p h))))))))))))
  · have hk := H.ap
    rw [keys_st] at hk ⊢
    have sub : ([V.st, V.ds, V.da] ++ (V.accs.flatMap (fun x : Acc => [x.a, x.d, x.sd]) ++ keys rest)).Sublist (cells V ++ (V.accs.flatMap (fun x : Acc => [x.a, x.d, x.sd]) ++ (V.rows.flatMap (fun r => [r.a, r.d]) ++ keys rest))) :=
      List.Sublist.append (List.sublist_append_left [V.st, V.ds, V.da] [V.dj, V.dt, V.dd]) (List.Sublist.append (List.Sublist.refl _) (List.sublist_append_right _ _))
    have nd1 := List.Nodup.sublist sub hk
    have lt1 : ∀ a ∈ [V.st, V.ds, V.da] ++ (V.accs.flatMap (fun x : Acc => [x.a, x.d, x.sd]) ++ keys rest), @LT.lt Nat _ a dj := by
      intro a ha
      rcases List.mem_append.mp ha with ha | ha
      · simp only [List.mem_cons, List.not_mem_nil, or_false] at ha
        rcases ha with rfl | rfl | rfl <;> assumption
      · have e : V.accs.flatMap (fun x : Acc => [x.a, x.d, x.sd]) ++ keys rest = keys (tlL w.params V.accs [] rest) := by
          unfold tlL
          rw [keys_append, keys_accs, List.flatMap_nil, List.nil_append]
        rw [e] at ha
        obtain ⟨p, hp, rfl⟩ := List.mem_map.mp ha
        refine allLt_mem.mp b6 p ?_
        rw [← hT]
        unfold tlL at hp ⊢
        simp only [List.mem_append, List.flatMap_nil, List.nil_append] at hp ⊢
        rcases hp with h | h <;> simp [h]
    have pm : ([V.st, V.ds, V.da, dj, dt, dd] ++ (V.accs.flatMap (fun x : Acc => [x.a, x.d, x.sd]) ++ keys rest)).Perm ([dj, dt, dd] ++ ([V.st, V.ds, V.da] ++ (V.accs.flatMap (fun x : Acc => [x.a, x.d, x.sd]) ++ keys rest))) := by
      have e : [V.st, V.ds, V.da, dj, dt, dd] = [V.st, V.ds, V.da] ++ [dj, dt, dd] := rfl
      rw [e, List.append_assoc]
      exact List.perm_append_comm_assoc ..
    show ([V.st, V.ds, V.da, dj, dt, dd] ++ (V.accs.flatMap (fun x : Acc => [x.a, x.d, x.sd]) ++ ([] ++ keys rest))).Nodup
    rw [List.nil_append, pm.nodup_iff]
    refine List.nodup_append.mpr ⟨?_, nd1, fun a ha b hb => ?_⟩
    · simp only [List.nodup_cons, List.mem_cons, List.not_mem_nil, or_false, not_or, List.nodup_nil, and_true, not_false_eq_true]
      exact ⟨⟨Nat.ne_of_lt l1, Nat.ne_of_lt (Nat.lt_trans l1 l2)⟩, Nat.ne_of_lt l2⟩
    · have := lt1 b hb
      simp only [List.mem_cons, List.not_mem_nil, or_false] at ha
      rcases ha with rfl | rfl | rfl
      · exact Nat.ne_of_gt this
      · exact Nat.ne_of_gt (Nat.lt_trans this l1)
      · exact Nat.ne_of_gt (Nat.lt_trans (Nat.lt_trans this l1) l2)
set_option maxHeartbeats 8000000 in
theorem end_con {w : World} (V : StV) (rest : Led) (H : WF w V rest) (h64 : V.touched.length < 64) :
    Con w none 436 [.ref V.st] 20 200 (stL w.params V rest) (EndPost w V rest) := by
  intro mean mg mb dp un gd cn cs a ccd cl outer A₀ base h₀ L m s Q E B F X N T hk hd hu ret
  have hoa := H.oa
  have hna := H.na
  have hot := H.ot
  have hnt := H.nt
  have hod := H.od
  have hnd := H.nd
  have h64t : (tchKvs V.touched).length < 64 := by rw [tch_len]; exact h64
  have h64d : ([] : List (Int × Value)).length < 64 := by decide
  have hl : stL w.params V rest = (V.st, instObj 439 V.ds) :: (V.ds, stO w.params V) :: (V.da, V.oa) :: (V.dj, rowsO V.rows V.nj) :: (V.dt, V.ot) :: (V.dd, V.od) :: tlL w.params V.accs V.rows rest := rfl
  rw [hl] at N
  generalize hT : tlL w.params V.accs V.rows rest = tl at N
  k_dflt ktr_enter
  k_steps
  unfold Halt
  k_dflt (refine For_list [Str.ofString "address"] (by k_asm) ?_)
  k_steps
  unfold Halt
  k_dflt (refine sorted_dict (d := V.dd) rfl (by k_asm) (by k_asm) (by k_mem) hod hnd h64d ?_)
  intro D1 v1 n1 c1 h1 tk1 F1 N1 l1 i1 p1 o1
  k_lt l1
  k_steps
  unfold Halt
  k_dflt (refine sorted_dict (d := V.dt) rfl (by k_asm) (by k_asm) (by k_mem) hot hnt h64t ?_)
  intro D2 v2 n2 c2 h2 tk2 F2 N2 l2 i2 p2 o2
  k_lt l2
  have en1 : n1 = [] := by simpa using p1
  subst en1
  have ev1 : v1 = [] := by cases i1; rfl
  subst ev1
  have hn2 : n2.Perm V.touched := by
    have e : (tchKvs V.touched).map (·.1) = V.touched := by unfold tchKvs; rw [List.map_map]; exact List.map_id _
    rw [e] at p2; exact p2
  have hlen2 : v2.length < 64 := by rw [i2.length, hn2.length_eq]; exact h64
  k_steps
  unfold Halt
  k_dflt (refine add_listsK (vs := []) (ws := v2) (by k_asm) (by k_asm) (News.isList (by k_asm) (by k_mem)) (News.isList (by k_asm) (by k_mem)) (by rw [sizeLine_eq]; simp only [List.length_nil]; omega) ?_)
  intro D3 h3 F3 N3 l3
  have N4 : News _ _ h3 (stL w.params V ((D3, PySem.W.listOf v2.toArray 0) :: rest)) := News.sub N3 (fun p hp => by have q := st_more.mp hp; rw [hl, hT] at q; exact end_sub q)
  have H4 : WF w V ((D3, PySem.W.listOf v2.toArray 0) :: rest) := H.more (fun p hp => Nat.ne_of_lt <| l3 p (by rw [hl, hT] at hp; exact .tail _ (.tail _ hp)))
  refine ⟨D3, v2, 0, _, fun j nx => ∃ accs oa ot, nx = stL w.params (V.put accs V.touched V.rows oa ot V.nj) ((D3, PySem.W.listOf v2.toArray 0) :: rest) ∧ WF w (V.put accs V.touched V.rows oa ot V.nj) ((D3, PySem.W.listOf v2.toArray 0) :: rest) ∧ cont accs = (cont V.accs).filter (keepC (n2.take j)), rfl, rfl, by k_asm, N4, ⟨V.accs, V.oa, V.ot, rfl, H4, (keepC0 _).symm⟩, ?_, ?_, ?_⟩
  · rintro j nx ⟨accs, oa, ot, rfl, -, -⟩
    exact st_more.mpr List.mem_cons_self
  · intro j v u nx I oI h5 tk5 hv hJ9 hI hoI F5 N5
    (try k_fold)
    obtain ⟨accs, oa, ot, rfl, H5, hac⟩ := hJ9
    clear N1 N2 N3 N4
    obtain ⟨k, t5, hk5, rfl⟩ := ints_at i2 hv
    have hkt : k ∈ V.touched := hn2.mem_iff.mp (List.mem_of_getElem? hk5)
    have H6 : WF w (V.put accs V.touched V.rows oa ot V.nj) ((I, oI) :: (D3, PySem.W.listOf v2.toArray 0) :: rest) := H5.more hI
    have N6 := News.sub N5 (l' := stL w.params (V.put accs V.touched V.rows oa ot V.nj) ((I, oI) :: (D3, PySem.W.listOf v2.toArray 0) :: rest)) (fun p hp => st_more.mp hp)
    clear N5
    have hl5 : stL w.params (V.put accs V.touched V.rows oa ot V.nj) ((I, oI) :: (D3, PySem.W.listOf v2.toArray 0) :: rest) = (V.st, instObj 439 V.ds) :: (V.ds, stO w.params V) :: (V.da, oa) :: (V.dj, rowsO V.rows V.nj) :: (V.dt, ot) :: (V.dd, V.od) :: tlL w.params accs V.rows ((I, oI) :: (D3, PySem.W.listOf v2.toArray 0) :: rest) := rfl
    have hoa5 : oa.IsDictOf (PySem.intKind pw w) (accKvs accs) := H6.oa
    have hsz5 : (accKvs accs).length ≤ sizeLine := H6.sz
    have hv5 := valueAt_acc accs k
    have hcn : ((cont accs).map (·.1)).Nodup := by have q : (accs.map (·.k)).Nodup := keys_nd H6; unfold cont; rw [List.map_map]; exact q
    have hct := ctAt_cont accs k
    obtain ⟨c01, c02, c03, c04, c05, c12, c13, c14, c15, c23, c24, c25, c34, c35, c45, z0, z1, z2, z3, z4, z5⟩ : Ap V (tlL w.params accs V.rows ((I, oI) :: (D3, PySem.W.listOf v2.toArray 0) :: rest)) := (by have z := ap_of H6.ap; exact ⟨z.c01, z.c02, z.c03, z.c04, z.c05, z.c12, z.c13, z.c14, z.c15, z.c23, z.c24, z.c25, z.c34, z.c35, z.c45, z.t0, z.t1, z.t2, z.t3, z.t4, z.t5⟩)
    rw [hl5] at N6
    cases hx : accAt accs k with
    | none =>
      rw [hx] at hv5 hct
      have hv6 : (valueAt (accKvs accs) k).isSome = false := by rw [hv5]; rfl
      generalize hT5 : tlL w.params accs V.rows ((I, oI) :: (D3, PySem.W.listOf v2.toArray 0) :: rest) = tl5 at N6 z2
      clear z0 z1 z3 z4 z5
      k_steps
      subst hT5
      obtain ⟨b1, b2, b3⟩ := st_back H6 (by k_asm)
      exact ⟨_, _, _, _, rfl, by k_asm, b1, b2, loc1, accs, oa, ot, rfl, b3, by rw [keepC_succ hk5, ← hac, filt_none hct]⟩
    | some x =>
      rw [hx] at hv5
      simp only [Option.map_some] at hv5
      have hv6 : (valueAt (accKvs accs) k).isSome = true := by rw [hv5]; rfl
      have hv7 : (valueAt ([] : List (Int × Value)) k).isSome = false := rfl
      obtain ⟨m1, m2, m3⟩ := acc_in (P := w.params) (rows := V.rows) (rest := (I, oI) :: (D3, PySem.W.listOf v2.toArray 0) :: rest) (accAt_mem hx).1
      generalize hT5 : tlL w.params accs V.rows ((I, oI) :: (D3, PySem.W.listOf v2.toArray 0) :: rest) = tl5 at N6 z2 m1 m2 m3
      clear z0 z1 z3 z4 z5
      rw [hx] at hct
      k_steps
      all_goals subst hT5
      all_goals first
        | contradiction
        | (have hem : x.ct.emp = false := (by unfold Ct.emp Acc.ct; simp_all); exact ⟨_, _, _, _, rfl, by k_asm, (st_back H6 (by k_asm)).1, (fun p hp q hq => (by rw [List.mem_singleton.mp hq]; exact H6.less.2 p hp)), loc1, accs, oa, ot, rfl, H6.less.1, by rw [keepC_succ hk5, ← hac, filt_some hcn hct hem]⟩)
        | (have hem : x.ct.emp = true := (by unfold Ct.emp Acc.ct; simp_all); obtain ⟨l9, N9, accs9, ts9, oa9, ot9, -, rfl, H9, e9, -, -⟩ := un_made H6 (k := k) (by assumption) rfl (by k_asm); (have e8 : cont accs9 = (cont accs).filter fun z => decide (z.1 ≠ k) := congrArg Prod.fst e9); (have e7 : ts9 = V.touched := congrArg Prod.snd e9); subst e7; obtain ⟨b1, b2, b3⟩ := st_back H9 N9; exact ⟨_, _, _, _, rfl, by k_asm, b1, b2, loc1, accs9, oa9, ot9, rfl, b3, by rw [keepC_succ hk5, ← hac, filt_emp hcn hct hem, e8]⟩)
  · rintro u nx h5 tk5 ⟨accs, oa, ot, rfl, H5, hac⟩ F5 N5
    clear N1 N2 N3 N4
    obtain ⟨H6, -⟩ := H5.less
    have N6 := News.sub N5 (l' := stL w.params (V.put accs V.touched V.rows oa ot V.nj) rest) (fun p hp => st_more.mpr (List.mem_cons_of_mem _ hp))
    clear N5
    have hl5 : stL w.params (V.put accs V.touched V.rows oa ot V.nj) rest = (V.st, instObj 439 V.ds) :: (V.ds, stO w.params V) :: (V.da, oa) :: (V.dj, rowsO V.rows V.nj) :: (V.dt, ot) :: (V.dd, V.od) :: tlL w.params accs V.rows rest := rfl
    obtain ⟨c01, c02, c03, c04, c05, c12, c13, c14, c15, c23, c24, c25, c34, c35, c45, z0, z1, z2, z3, z4, z5⟩ : Ap V (tlL w.params accs V.rows rest) := (by have z := ap_of H6.ap; exact ⟨z.c01, z.c02, z.c03, z.c04, z.c05, z.c12, z.c13, z.c14, z.c15, z.c23, z.c24, z.c25, z.c34, z.c35, z.c45, z.t0, z.t1, z.t2, z.t3, z.t4, z.t5⟩)
    rw [hl5] at N6
    generalize hT5 : tlL w.params accs V.rows rest = tl5 at N6 z1
    clear z0 z2 z3 z4 z5
    k_steps
    obtain ⟨l9, N9, P9⟩ := end_fin H6 hT5 (by k_asm) (by assumption) (by assumption) (by assumption) (by assumption) (by assumption) (by assumption) (by assumption) (by assumption) (by assumption) (by assumption)
    exact ret _ _ _ l9 (by k_asm) N9 (P9.to hac (by rw [i2.length]) hn2)
-- PART 43: begin
def StV.fresh (V : StV) (rf : Int) (trf : Tok) (vl : Value) : StV := { V with rf := rf, trf := trf, vl := vl }
theorem begin_sub {P : Params} {V : StV} {rest : Led} {st : Addr} {rf : Int} {trf : Tok} {vl : Value} (e : V.st = st) {p : Addr × Obj} (h : p ∈ stL P (V.fresh rf trf vl) rest) : p ∈ (st, instObj 439 V.ds) :: (V.ds, stO P (V.fresh rf trf vl)) :: (V.da, V.oa) :: (V.dj, rowsO V.rows V.nj) :: (V.dt, V.ot) :: (V.dd, V.od) :: tlL P V.accs V.rows rest := by
  subst e
  exact h
set_option maxHeartbeats 8000000 in
theorem begin_con {w : World} (V : StV) (rest : Led) (H : WF w V rest) (h64 : V.touched.length < 64) :
    Con w none 429 [.ref V.st] 30 300 (stL w.params V rest) (EndPost w V rest) := by
  intro mean mg mb dp un gd cn cs a ccd cl outer A₀ base h₀ L m s Q E B F X N T hk hd hu ret
  k_dflt ktr_enter
  k_steps
  unfold Halt
  dsimp only
  k_dflt (refine Con.useK (end_con V rest H h64) EndPost.el (by k_asm) (by k_asm) (by k_asm) (by k_asm) (fun p hp => hp) (by k_asm) (by first | exact rfl | assumption) (by walk_at "DEP") (by walk_at "UNI") ?_)
  intro V1 H1 e1 e2 e3 e4 h1 tk1 F1 N1
  obtain ⟨c01, c02, c03, c04, c05, c12, c13, c14, c15, c23, c24, c25, c34, c35, c45, z0, z1, z2, z3, z4, z5⟩ := ap_of H1.ap
  have hl : stL w.params V1 rest = (V.st, instObj 439 V1.ds) :: (V1.ds, stO w.params V1) :: (V1.da, V1.oa) :: (V1.dj, rowsO V1.rows V1.nj) :: (V1.dt, V1.ot) :: (V1.dd, V1.od) :: tlL w.params V1.accs V1.rows rest := by rw [← e1]; rfl
  rw [hl] at N1
  rw [e1] at c01 c02 c03 c04 c05 z0
  generalize hT : tlL w.params V1.accs V1.rows rest = tl at N1 z0 z1 z2 z3 z4 z5
  clear z0 z2 z3 z4 z5
  k_steps
  subst hT
  refine ret _ _ _ (stL w.params (V1.fresh 0 _ _) rest) (by k_asm) (News.sub (by k_asm) (fun p hp => List.mem_cons_of_mem _ (begin_sub e1 hp))) ⟨V1.fresh 0 _ _, rfl, rfl, ⟨H1.oa, H1.ot, H1.od, H1.na, H1.nt, H1.nd, H1.so, H1.ns, H1.sa, H1.st, H1.sr, H1.ap⟩, e1, e2, e3, e4⟩
-- PART 50: deep equality: lists of (int, (int, int, bytes, dict))
section
variable {A : Around} {s : Shared}
open SeqAt
theorem eqat_bytes {b c : Array UInt8} {t u : Tok} (h : b = c) : EqAt A s (.bytes b t) (.bytes c u) true := fun prog w E Q hq => by
  refine eqBool_bytes ?_
  subst h
  simpa using hq
theorem eqat_int {a b : Int} {t u : Tok} (h : a = b) : EqAt A s (.int a t) (.int b u) true := by
  subst h
  have q := EqAt.int_int (A := A) (s := s) a t a u
  rwa [beq_self_eq_true] at q
theorem dict_any {p p' : Program} {w w' : World} {h : Heap} {a : Addr} {kvs : List (Int × Value)} (x : h.DictOf (PySem.intKind p w) a kvs) : h.DictOf (PySem.intKind p' w') a kvs := by
  obtain ⟨o, es, ep, h1, h2, h3, h4, h5, h6⟩ := x
  refine ⟨o, es, ep, h1, h2, h3, h4, ?_, h6⟩
  clear h3 h4 h6
  generalize es.toList = l at h5
  induction h5 with
  | nil => exact .nil
  | cons a b _ ih => exact .cons a b ih
theorem eqat_dict {w : World} {a b : Addr} {ka kb : List (Int × Value)} (ha : (a == sysModules) = false) (hb : (b == sysModules) = false) (da : s.heap.DictOf (PySem.intKind pw w) a ka) (db : s.heap.DictOf (PySem.intKind pw w) b kb) (hu : A.units < cLine) (hl : ka.length = kb.length) (hits : KeqHits A.in1 s kb ka true) : EqAt A s (.ref a) (.ref b) true := by
  by_cases e : a = b
  · subst e; exact EqAt.same _
  · refine EqAt.of_refs e fun prog w' E Q hq => ?_
    refine keq_eq (knd := PySem.intKind prog w') ha hb (dict_any da) (dict_any db) hu (fun _ => hits) ?_
    rw [hl, beq_self_eq_true]
    exact hq
theorem hits_sl (b : Bool) (t u : Tok) : KeqHits A s (slKvs b u) (slKvs b t) true := by
  cases b with
  | false => exact .nil
  | true => exact .hit (y := .int 9 u) (e := true) (b := true) rfl (eqat_int rfl) .nil
def Tup4 (w : World) (h : Heap) (v : Value) (c : Ct) : Prop := ∃ (U : Addr) (t1 t2 t3 : Tok) (d : Addr), v = .ref U ∧ h.IsTuple U #[.int c.nonce t1, .int c.bal t2, .bytes c.code t3, .ref d] ∧ (d == sysModules) = false ∧ ∃ t, h.DictOf (PySem.intKind pw w) d (slKvs c.sl t)
theorem eqat_tup4 {w : World} {v v' : Value} {c : Ct} (h : Tup4 w s.heap v c) (h' : Tup4 w s.heap v' c) (hu : A.units + 2 < cLine) : EqAt A s v v' true := by
  obtain ⟨U, t1, t2, t3, d, rfl, hU, hd, t, hD⟩ := h
  obtain ⟨U', t1', t2', t3', d', rfl, hU', hd', t', hD'⟩ := h'
  by_cases e : U = U'
  · subst e; exact EqAt.same _
  · refine EqAt.of_refs e fun prog w' E Q hq => RcAt.tuples (e := fun _ => true) hU hU' (by omega) (fun j h1 h2 => ?_) prog w' E Q hq
    have hj : j < 4 := h1
    rcases j with _ | _ | _ | _ | j
    · exact eqat_int rfl
    · exact eqat_int rfl
    · exact eqat_bytes rfl
    · exact eqat_dict hd hd' hD hD' (by show A.units + 1 < cLine; omega) (by unfold slKvs; split <;> rfl) (hits_sl _ _ _)
    · omega
def Pair4 (w : World) (h : Heap) (v : Value) (z : Int × Ct) : Prop := ∃ (T : Addr) (t : Tok) (x : Value), v = .ref T ∧ h.IsTuple T #[.int z.1 t, x] ∧ Tup4 w h x z.2
theorem eqat_pair {w : World} {v v' : Value} {z : Int × Ct} (h : Pair4 w s.heap v z) (h' : Pair4 w s.heap v' z) (hu : A.units + 4 < cLine) : EqAt A s v v' true := by
  obtain ⟨T, t, x, rfl, hT, hx⟩ := h
  obtain ⟨T', t', x', rfl, hT', hx'⟩ := h'
  by_cases e : T = T'
  · subst e; exact EqAt.same _
  · refine EqAt.of_refs e fun prog w' E Q hq => RcAt.tuples (e := fun _ => true) hT hT' (by omega) (fun j h1 h2 => ?_) prog w' E Q hq
    have hj : j < 2 := h1
    rcases j with _ | _ | j
    · exact eqat_int rfl
    · exact eqat_tup4 hx hx' (by show A.units + 1 + 2 < cLine; omega)
    · omega
theorem eq_pairs {prog : Program} {w : World} {E : Value → Shared → Prop} {Q : Value → Shared → Prop} {a b : Addr} {vs us : List Value} {zs : List (Int × Ct)} (ha : s.heap.IsList a vs.toArray) (hb : s.heap.IsList b us.toArray) (hv : vs.length = zs.length) (hu' : us.length = zs.length)
    (pv : ∀ (j : Nat) v z, vs[j]? = some v → zs[j]? = some z → Pair4 w s.heap v z) (pu : ∀ (j : Nat) v z, us[j]? = some v → zs[j]? = some z → Pair4 w s.heap v z) (hu : A.units + 6 < cLine) (h : Q (.bool true) s) : wpAny (model prog w) A (compareOp .Eq (.ref a) (.ref b)) Q E s := by
  refine eq_listAt (e := fun _ => true) ha hb (by simp [hv, hu']) (by omega) (fun j h1 h2 => ?_) ?_
  rotate_left
  · have e : ((List.range vs.toArray.size).all fun _ => true) = true := List.all_eq_true.mpr fun _ _ => rfl
    rw [e]; exact h
  have h1' : j < vs.length := by simpa using h1
  have h2' : j < us.length := by simpa using h2
  have h3' : j < zs.length := by omega
  have q1 := pv j vs[j] zs[j] (List.getElem?_eq_getElem h1') (List.getElem?_eq_getElem h3')
  have q2 := pu j us[j] zs[j] (List.getElem?_eq_getElem h2') (List.getElem?_eq_getElem h3')
  have e := eqat_pair (A := A.in1) q1 q2 (by show A.units + 1 + 4 < cLine; omega)
  simpa using e
end
theorem rows_6 : True := by
  k_with "exec Assign cons ListComp" => refine halt_ ?_
  k_with "getMethod ref" => (k_here; (with_reducible show wpAny _ _ (getMethod (Value.ref _) (Str.ofString "get") _) _ _ _); k_dflt (refine kdg_method (knd := PySem.intKind _ _) (by k_asm) (by k_mem) (by k_asm) ?_))
  k_with "call builtin:dict.get" => (k_here; k_dflt (refine kdg_get1 (knd := PySem.intKind _ _) (by k_asm) (by k_mem) (by k_asm) (by assumption) (intKind_is _ _ _ _) (some _) (by assumption) ?_); (try dsimp only [Option.getD]))
  k_with "compareOp Eq ref ref" => ((with_reducible show wpAny _ _ (compareOp _ (Value.ref _) (Value.ref _)) _ _ _); refine halt_ ?_)
  k_with "UNC" => first | exact Nat.le_of_ble_eq_true rfl | exact bq2 (by assumption) (by rfl) | exact bq1 (by assumption) (by rfl) | exact bq3 (by assumption) (by rfl) | exact bq0 (by assumption) (by rfl) | ((have hcL9 := cLine_is); (try simp only [units_in1, units_deeper, Around.mark_units, units_caller]); (try dsimp only); omega)
  k_with "call type:dict" => ((with_reducible show wpAny _ _ (call (Value.type "dict") [Value.ref _]) _ _ _); refine halt_ ?_)
  k_with "call builtin:dict.get" => (k_here; (with_reducible show wpAny _ _ (call (Value.builtin "dict.get") [Value.ref _, Value.int _ _, Value.ref _]) _ _ _); k_dflt (refine kdg_get2 (knd := PySem.intKind _ _) (by k_asm) (by k_mem) (by k_asm) (by assumption) (intKind_is _ _ _ _) _ (by assumption) ?_); (try dsimp only [Option.getD]))
  trivial
-- PART 51: account, the comprehensions of _law_is_so
def tupO (vs : List Value) : Obj := { cls := .type "tuple", data := .seq vs.toArray }
def OnesAre (accs : List Acc) (ns : List Int) (ys : List Value) (tl' tl : Led) : Prop :=
  (∀ p ∈ tl, p ∈ tl') ∧ ∀ (j : Nat) (y : Value), ys[j]? = some y → ∃ T t k x, y = .ref T ∧ ns[j]? = some k ∧ accAt accs k = some x ∧ (T, tupO [.int k t, .ref x.a]) ∈ tl'
theorem mem_mid {α : Type} {pre tl : List α} {a p : α} : p ∈ pre ++ a :: tl ↔ p = a ∨ p ∈ pre ++ tl := by
  simp only [List.mem_append, List.mem_cons]
  constructor
  · rintro (h | h | h) <;> simp [h]
  · rintro (h | h | h) <;> simp [h]
theorem comp_off {I C D T : Addr} {o : Obj} (pre : Led) {tl : Led} (off : LCg.Off3 I C D (pre ++ tl)) (h1 : @LT.lt Nat _ I T) (h2 : @LT.lt Nat _ C T) (h3 : @LT.lt Nat _ D T) : LCg.Off3 I C D (pre ++ (T, o) :: tl) :=
  LCg.Off3.of fun p hp => by
    rcases mem_mid.mp hp with rfl | hp
    · exact ⟨Nat.ne_of_gt h1, Nat.ne_of_gt h2, Nat.ne_of_gt h3⟩
    · exact off.mem p hp
theorem comp_sub {x y z a : Addr × Obj} (pre : Led) {tl : Led} : ∀ p ∈ x :: y :: z :: (pre ++ a :: tl), p ∈ a :: x :: y :: z :: (pre ++ tl) := fun p hp =>
  (List.perm_middle (l₁ := x :: y :: z :: pre) (l₂ := tl) (a := a)).mem_iff.mp hp
theorem accAt_isSome {accs : List Acc} {k : Int} (h : k ∈ accs.map (·.k)) : (accAt accs k).isSome = true := by
  unfold accAt
  rw [List.find?_isSome]
  obtain ⟨x, hx, e⟩ := List.mem_map.mp h
  exact ⟨x, hx, by simp [e]⟩
def DueAre (kvs : List (Int × Value)) (ns : List Int) (us : List Value) (tl' tl : Led) : Prop :=
  (∀ p ∈ tl, p ∈ tl') ∧ ∀ (j : Nat) (y : Value), us[j]? = some y → ∃ T t k x, y = .ref T ∧ ns[j]? = some k ∧ valueAt kvs k = some x ∧ (T, tupO [.int k t, x]) ∈ tl'
theorem key_isSome {kvs : List (Int × Value)} {k : Int} (h : k ∈ kvs.map (·.1)) : (valueAt kvs k).isSome = true := by
  rw [valueAt_isSome_eq_any, List.any_eq_true]
  obtain ⟨x, hx, e⟩ := List.mem_map.mp h
  exact ⟨x, hx, by simp [e]⟩
theorem due_step {kvs : List (Int × Value)} {ns : List Int} {ys : List Value} {tl' tl : Led} {T : Addr} {t : Tok} {k : Int} {x : Value} (h : DueAre kvs ns ys tl' tl) (hk : ns[ys.length]? = some k) (hx : valueAt kvs k = some x) : DueAre kvs ns (ys ++ [.ref T]) ((T, tupO [.int k t, x]) :: tl') tl := by
  refine ⟨fun p hp => List.mem_cons_of_mem _ (h.1 p hp), fun j y hj => ?_⟩
  rcases Nat.lt_trichotomy j ys.length with hlt | heq | hgt
  · rw [List.getElem?_append_left hlt] at hj
    obtain ⟨T', t', k', x', e1, e2, e3, e4⟩ := h.2 j y hj
    exact ⟨T', t', k', x', e1, e2, e3, List.mem_cons_of_mem _ e4⟩
  · subst heq
    rw [List.getElem?_append_right (Nat.le_refl _)] at hj
    simp at hj
    exact ⟨T, t, k, x, hj.symm, hk, hx, List.mem_cons_self⟩
  · rw [List.getElem?_eq_none (by simp; omega)] at hj
    cases hj
def ZAre (accs : List Acc) (ns : List Int) (zs : List Value) (tl' tl : Led) : Prop :=
  (∀ p ∈ tl, p ∈ tl') ∧ ∀ (j : Nat) (y : Value), zs[j]? = some y → ∃ T t U u1 u2 u3 k x, y = .ref T ∧ ns[j]? = some k ∧ accAt accs k = some x ∧ (T, tupO [.int k t, .ref U]) ∈ tl' ∧ (U, tupO [.int x.nonce u1, .int x.bal u2, .bytes x.code u3, .ref x.sd]) ∈ tl'
theorem z_step {accs : List Acc} {ns : List Int} {ys : List Value} {tl' tl : Led} {T U : Addr} {t u1 u2 u3 : Tok} {k : Int} {x : Acc} (h : ZAre accs ns ys tl' tl) (hk : ns[ys.length]? = some k) (hx : accAt accs k = some x) : ZAre accs ns (ys ++ [.ref T]) ((T, tupO [.int k t, .ref U]) :: (U, tupO [.int x.nonce u1, .int x.bal u2, .bytes x.code u3, .ref x.sd]) :: tl') tl := by
  refine ⟨fun p hp => List.mem_cons_of_mem _ (List.mem_cons_of_mem _ (h.1 p hp)), fun j y hj => ?_⟩
  rcases Nat.lt_trichotomy j ys.length with hlt | heq | hgt
  · rw [List.getElem?_append_left hlt] at hj
    obtain ⟨T', t', U', a1, a2, a3, k', x', e1, e2, e3, e4, e5⟩ := h.2 j y hj
    exact ⟨T', t', U', a1, a2, a3, k', x', e1, e2, e3, List.mem_cons_of_mem _ (List.mem_cons_of_mem _ e4), List.mem_cons_of_mem _ (List.mem_cons_of_mem _ e5)⟩
  · subst heq
    rw [List.getElem?_append_right (Nat.le_refl _)] at hj
    simp at hj
    exact ⟨T, t, U, u1, u2, u3, k, x, hj.symm, hk, hx, List.mem_cons_self, List.mem_cons_of_mem _ List.mem_cons_self⟩
  · rw [List.getElem?_eq_none (by simp; omega)] at hj
    cases hj
section
variable {prog : Program} {w : World} {A : Around} {s : Shared} {h₀ : Heap} {L : Addr} {m : Str → Option Value} {env : Env}
open LCg LCp
theorem compRestP_inv {elt : Expr} {x x₂ : Str} {scope : Scope} {cl : List (Str × Addr)} {S : Led → Prop} {P : Nat → Value → Prop} {Fin : List Value → Led → Prop} {n : Nat} (J : List Value → Led → Prop)
    (turn : ∀ ys news v, ys.length < n → J ys news → P ys.length v → ∃ (t : Addr) (ot : Obj) (v₁ v₂ : Value) (nt : Nat), v = .ref t ∧ (t, ot) ∈ news ∧ ot.cls = .type "tuple" ∧ ot.data = .seq #[v₁, v₂] nt ∧
      ∀ I oI C oC D m₂ h tk (E' : Value → Shared → Prop), NsObj oC m₂ → m₂ x = some v₁ → m₂ x₂ = some v₂ → Fr h₀ L h m → News h₀ L h ((I, oI) :: (C, oC) :: (D, lst ys) :: news) → Off3 I C D news → ((@Ne Nat I C) ∧ (@Ne Nat I D) ∧ (@Ne Nat C D)) →
      wpAny (model prog w) A (eval elt (compEnvC scope cl C env)) (CompEnd h₀ L m { s with heap := h, toks := tk } I oI C oC D (lst ys) S (fun y news' => J (ys ++ [y]) news')) E' { s with heap := h, toks := tk })
    (fin : ∀ ys news, ys.length = n → J ys news → Fin ys news) :
    ∀ k i ys news, i + k = n → ys.length = i → J ys news → CompRestP prog w A h₀ L m env elt x x₂ scope cl s S P Fin k i ys news := by
  intro k
  induction k with
  | zero => intro i ys news h1 h2 hJ; exact CompRestP.zero (fin ys news (by omega) hJ)
  | succ k ih =>
    intro i ys news h1 h2 hJ
    refine CompRestP.succ fun v hP => ?_
    subst h2
    obtain ⟨t, ot, v1, v2, nt, e1, e2, e3, e4, e5⟩ := turn ys news v (by omega) hJ hP
    refine ⟨t, ot, v1, v2, nt, e1, e2, e3, e4, fun I oI C oC D m₂ h tk E' hC hx hx2 F N off ne => ?_⟩
    refine wpAny_mono (e5 I oI C oC D m₂ h tk E' hC hx hx2 F N off ne) (fun y s' hy => ?_) fun _ _ e => e
    obtain ⟨h', tk', news', e, F', N', off', hS, hJ'⟩ := hy
    exact ⟨h', tk', news', e, F', N', off', hS, ih (ys.length + 1) (ys ++ [y]) news' (by omega) (by simp) hJ'⟩
end
theorem comp_sub2 {x y z a b : Addr × Obj} (pre : Led) {tl : Led} : ∀ p ∈ x :: y :: z :: (pre ++ a :: b :: tl), p ∈ a :: b :: x :: y :: z :: (pre ++ tl) := fun p hp =>
  (List.perm_append_comm_assoc (x :: y :: z :: pre) [a, b] tl).mem_iff.mp hp
theorem accKeys (accs : List Acc) : (accKvs accs).map (·.1) = accs.map (·.k) := by
  unfold accKvs
  rw [List.map_map]
  rfl
def BkE (w : World) (rest : Led) (v : Value) (c : Ct) : Prop := ∃ U t1 t2 t3 d oD t, v = .ref U ∧ (U, tupO [.int c.nonce t1, .int c.bal t2, .bytes c.code t3, .ref d]) ∈ rest ∧ (d, oD) ∈ rest ∧ oD.IsDictOf (PySem.intKind pw w) (slKvs c.sl t) ∧ (d == sysModules) = false
theorem tup_at {h₀ h : Heap} {L T : Addr} {nw : Led} {vs : List Value} (N : News h₀ L h nw) (hm : (T, tupO vs) ∈ nw) : h.IsTuple T vs.toArray := ⟨_, (N _ hm).1, rfl, _, rfl⟩
theorem z_pairs {w : World} {V : StV} {rest nw tl' tl : Led} {h₀ h : Heap} {L : Addr} {ns : List Int} {zs : List Value} (H : WF w V rest) (N : News h₀ L h nw) (hs : ∀ p ∈ tlL w.params V.accs V.rows rest, p ∈ nw) (hin : ∀ p ∈ tl', p ∈ nw) (hz : ZAre V.accs ns zs tl' tl) :
    ∀ (j : Nat) v z, zs[j]? = some v → (ns.map fun k => (k, ((accAt V.accs k).map Acc.ct).getD noCt))[j]? = some z → Pair4 w h v z := by
  intro j v z hv hzj
  obtain ⟨T, t, U, u1, u2, u3, k, x, rfl, hk, hx, m1, m2⟩ := hz.2 j v hv
  rw [List.getElem?_map, hk] at hzj
  cases hzj
  simp only [hx, Option.map_some, Option.getD_some]
  obtain ⟨hxm, -⟩ := accAt_mem hx
  obtain ⟨tso, hso⟩ := H.so x hxm
  obtain ⟨-, -, m3⟩ := acc_in (P := w.params) (rows := V.rows) (rest := rest) hxm
  refine ⟨T, t, .ref U, rfl, tup_at N (hin _ m1), U, u1, u2, u3, x.sd, rfl, tup_at N (hin _ m2), H.ns x hxm, tso, Heap.dictOf_iff.mpr ⟨_, (N _ (hs _ m3)).1, hso⟩⟩
theorem due_pairs {w : World} {accs : List Acc} {rest nw tl : Led} {h₀ h : Heap} {L : Addr} {ns ns3 : List Int} {us : List Value} {kvs : List (Int × Value)} (N : News h₀ L h nw) (hs : ∀ p ∈ rest, p ∈ nw) (hin : ∀ p ∈ tl, p ∈ nw) {tl2 : Led}
    (hb : ∀ k v, valueAt kvs k = some v → ∃ x, accAt accs k = some x ∧ BkE w rest v x.ct) (hn : ns = ns3) (hd : DueAre kvs ns3 us tl tl2) :
    ∀ (j : Nat) v z, us[j]? = some v → (ns.map fun k => (k, ((accAt accs k).map Acc.ct).getD noCt))[j]? = some z → Pair4 w h v z := by
  subst hn
  intro j v z hv hzj
  obtain ⟨T, t, k, x, rfl, hk, hx, m1⟩ := hd.2 j v hv
  rw [List.getElem?_map, hk] at hzj
  cases hzj
  obtain ⟨y, hy, U, t1, t2, t3, d, oD, tD, rfl, m2, m3, hoD, hdn⟩ := hb k x hx
  simp only [hy, Option.map_some, Option.getD_some]
  exact ⟨T, t, .ref U, rfl, tup_at N (hin _ m1), U, t1, t2, t3, d, rfl, tup_at N (hs _ m2), hdn, tD, Heap.dictOf_iff.mpr ⟨_, (N _ (hs _ m3)).1, hoD⟩⟩
theorem ones_step {accs : List Acc} {ns : List Int} {ys : List Value} {tl' tl : Led} {T : Addr} {t : Tok} {k : Int} {x : Acc} (h : OnesAre accs ns ys tl' tl) (hk : ns[ys.length]? = some k) (hx : accAt accs k = some x) : OnesAre accs ns (ys ++ [.ref T]) ((T, tupO [.int k t, .ref x.a]) :: tl') tl := by
  refine ⟨fun p hp => List.mem_cons_of_mem _ (h.1 p hp), fun j y hj => ?_⟩
  rcases Nat.lt_trichotomy j ys.length with hlt | heq | hgt
  · rw [List.getElem?_append_left hlt] at hj
    obtain ⟨T', t', k', x', e1, e2, e3, e4⟩ := h.2 j y hj
    exact ⟨T', t', k', x', e1, e2, e3, List.mem_cons_of_mem _ e4⟩
  · subst heq
    rw [List.getElem?_append_right (Nat.le_refl _)] at hj
    simp at hj
    exact ⟨T, t, k, x, hj.symm, hk, hx, List.mem_cons_self⟩
  · rw [List.getElem?_eq_none (by simp; omega)] at hj
    cases hj
set_option maxHeartbeats 8000000 in
theorem is_so_con {w : World} (V : StV) (rest : Led) (H : WF w V rest) (bk : Addr) (bo : Obj) (kvs : List (Int × Value)) (hbm : (bk, bo) ∈ rest) (hbo : bo.IsDictOf (PySem.intKind pw w) kvs) (hbn : (bk == sysModules) = false) (h64b : kvs.length < 64) (h64 : V.accs.length < 64) (hkk : kvs.map (·.1) = V.accs.map (·.k)) (hbb : ∀ k v, valueAt kvs k = some v → ∃ x, accAt V.accs k = some x ∧ BkE w rest v x.ct) :
    Con w none 479 [.ref V.st, .ref bk] 20 200 (stL w.params V rest) (fun r l' => r = .bool true ∧ l' = stL w.params V rest) := by
  intro mean mg mb dp un gd cn cs a ccd cl outer A₀ base h₀ L m s Q E B F X N T hk hd hu ret
  have hoa := H.oa
  have hna := H.na
  have h64a : (accKvs V.accs).length < 64 := by rw [kvs_len]; exact h64
  have hl : stL w.params V rest = (V.st, instObj 439 V.ds) :: (V.ds, stO w.params V) :: (V.da, V.oa) :: (V.dj, rowsO V.rows V.nj) :: (V.dt, V.ot) :: (V.dd, V.od) :: tlL w.params V.accs V.rows rest := rfl
  have hbm2 : (bk, bo) ∈ tlL w.params V.accs V.rows rest := List.mem_append_right _ (List.mem_append_right _ hbm)
  rw [hl] at N
  generalize hT : tlL w.params V.accs V.rows rest = tl at N hbm2
  k_dflt ktr_enter
  k_steps
  rename_i oc1 oc2 g1 L1 hh1 tkk1 FG1 FF1 BB1 XX1 TT1 lf5 lf4 lf3 lf2 lf1 lf0 ll1 q1 q2 N0
  unfold Halt
  k_dflt (refine LCg.Assign_ListComp_U (F₀ := by k_asm) rfl (by rfl) (by with_unfolding_all rfl) (by decide) (by rfl) (by decide) (by rfl) (by rfl) (by rfl) ?_)
  k_steps
  unfold Halt
  k_dflt (refine sorted_dict (d := V.da) rfl (by k_asm) (by k_asm) (by k_mem) hoa hna h64a ?_)
  intro D1 v1 n1 c1 h1 tk1 F1 N1 l1 i1 p1 o1
  k_lt l1
  k_steps
  refine LCg.CompSrc.ledger (its := v1.toArray) (k := c1) rfl (by k_asm) (by k_asm) (by k_mem) (by rw [sizeLine_eq]; have q := i1.length; have q2 := p1.length_eq; rw [List.length_map] at q2; simp only [List.size_toArray]; omega) (fun g => ?_)
  refine compRest_inv (n := v1.length) (J := fun ys nw => ∃ tl', nw = (D1, PySem.W.listOf v1.toArray c1) :: (L1 + 1 + 1, oc1) :: (L1 + 1, oc2) :: (V.st, instObj 439 V.ds) :: (V.ds, stO w.params V) :: (V.da, V.oa) :: (V.dj, rowsO V.rows V.nj) :: (V.dt, V.ot) :: (V.dd, V.od) :: tl' ∧ OnesAre V.accs n1 ys tl' tl) ?_ ?_ _ 0 [] _ (Nat.zero_add _) rfl (by refine ⟨tl, rfl, fun p hp => hp, fun j y hy => ?_⟩; simp at hy)
  · intro ys nw v I oI C oC D m₂ h2 tk2 E2 hlt hJ9 hv hC hx F2 N2 off2 ne2
    (try k_fold)
    obtain ⟨tl', rfl, j1, j2⟩ := hJ9
    obtain ⟨k, t2, hk2, rfl⟩ := ints_at i1 (by simpa using hv)
    clear N1 N0
    have hkx : (accAt V.accs k).isSome = true := accAt_isSome (by have q := p1.mem_iff.mp (List.mem_of_getElem? hk2); unfold accKvs at q; rw [List.map_map] at q; exact q)
    obtain ⟨x, hx2⟩ := Option.isSome_iff_exists.mp hkx
    have hvx : valueAt (accKvs V.accs) k = some (.ref x.a) := by rw [valueAt_acc, hx2]; rfl
    k_steps
    exact LCg.CompEnd.intro (by k_asm) (by k_asm) ([(D1, PySem.W.listOf v1.toArray c1), (L1 + 1 + 1, oc1), (L1 + 1, oc2), (V.st, instObj 439 V.ds), (V.ds, stO w.params V), (V.da, V.oa), (V.dj, rowsO V.rows V.nj), (V.dt, V.ot), (V.dd, V.od)] ++ (_, _) :: tl') (comp_sub _) (comp_off _ off2 (by assumption) (by assumption) (by assumption)) (.inr ⟨_, List.mem_cons_self, rfl, _, rfl⟩) ⟨_, rfl, ones_step ⟨j1, j2⟩ hk2 hx2⟩
  · rintro ys nw hlen ⟨tl1, rfl, hO1⟩
    unfold LCg.FinA
    intro D2 h4 tk4 F4 N4 off4
    have hb4 : (bk, bo) ∈ tl1 := hO1.1 _ hbm2
    k_steps
    unfold Halt
    k_dflt (refine LCg.Assign_ListComp_U (F₀ := by k_asm) rfl (by rfl) (by with_unfolding_all rfl) (by decide) (by rfl) (by decide) (by rfl) (by rfl) (by rfl) ?_)
    k_steps
    unfold Halt
    k_dflt (refine sorted_dict (d := bk) rfl (by k_asm) (by k_asm) (by k_mem) hbo hbn h64b ?_)
    intro D3 v3 n3 c3 h3 tk3 F3 N3 l3 i3 p3 o3
    k_lt l3
    k_steps
    refine LCg.CompSrc.ledger (its := v3.toArray) (k := c3) rfl (by k_asm) (by k_asm) (by k_mem) (by rw [sizeLine_eq]; have q := i3.length; have q2 := p3.length_eq; rw [List.length_map] at q2; simp only [List.size_toArray]; omega) (fun g => ?_)
    refine compRest_inv (n := v3.length) (J := fun us nw => ∃ tl', nw = (D3, PySem.W.listOf v3.toArray c3) :: ([(D2, LCg.lst ys), (D1, PySem.W.listOf v1.toArray c1), (L1 + 1 + 1, oc1), (L1 + 1, oc2), (V.st, instObj 439 V.ds), (V.ds, stO w.params V), (V.da, V.oa), (V.dj, rowsO V.rows V.nj), (V.dt, V.ot), (V.dd, V.od)] ++ tl') ∧ DueAre kvs n3 us tl' tl1) ?_ ?_ _ 0 [] _ (Nat.zero_add _) rfl (by refine ⟨tl1, rfl, fun p hp => hp, fun j y hy => ?_⟩; simp at hy)
    · intro us nw v I oI C oC D m₂ h2 tk2 E2 hlt hJ9 hv hC hx F2 N2 off2 ne2
      (try k_fold)
      obtain ⟨tl', rfl, j1, j2⟩ := hJ9
      obtain ⟨k, t2, hk2, rfl⟩ := ints_at i3 (by simpa using hv)
      clear N3 N4 N0
      have hkx : (valueAt kvs k).isSome = true := key_isSome (p3.mem_iff.mp (List.mem_of_getElem? hk2))
      obtain ⟨x, hx2⟩ := Option.isSome_iff_exists.mp hkx
      have hb5 : (bk, bo) ∈ tl' := j1 _ hb4
      simp only [List.cons_append, List.nil_append] at F2 N2 off2
      k_steps
      exact LCg.CompEnd.intro (by k_asm) (by k_asm) ([(D3, PySem.W.listOf v3.toArray c3), (D2, LCg.lst ys), (D1, PySem.W.listOf v1.toArray c1), (L1 + 1 + 1, oc1), (L1 + 1, oc2), (V.st, instObj 439 V.ds), (V.ds, stO w.params V), (V.da, V.oa), (V.dj, rowsO V.rows V.nj), (V.dt, V.ot), (V.dd, V.od)] ++ (_, _) :: tl') (comp_sub _) (comp_off _ off2 (by assumption) (by assumption) (by assumption)) (.inr ⟨_, List.mem_cons_self, rfl, _, rfl⟩) ⟨_, rfl, due_step ⟨j1, j2⟩ hk2 hx2⟩
    · rintro us nw hlen2 ⟨tl2, rfl, hO2⟩
      unfold LCg.FinA
      intro D4 h6 tk6 F6 N6 off6
      simp only [List.cons_append, List.nil_append] at N6 off6
      k_steps
      unfold Halt
      k_dflt (refine LCp.ListComp_P (F₀ := by k_asm) (by with_unfolding_all rfl) (by decide) (by rfl) (by decide) (by rfl) (by rfl) (by decide) ?_)
      k_steps
      refine LCp.SrcLP.ledger (its := ys.toArray) rfl (by k_asm) (by k_asm) (by k_mem) (by rw [sizeLine_eq]; have q := i1.length; have q2 := p1.length_eq; rw [List.length_map] at q2; simp only [List.size_toArray]; omega) (fun g => ?_)
      refine compRestP_inv (n := ys.length) (J := fun zs nw => ∃ tl', nw = [(D4, LCg.lst us), (D3, PySem.W.listOf v3.toArray c3), (D2, LCg.lst ys), (D1, PySem.W.listOf v1.toArray c1), (L1 + 1 + 1, oc1), (L1 + 1, oc2), (V.st, instObj 439 V.ds), (V.ds, stO w.params V), (V.da, V.oa), (V.dj, rowsO V.rows V.nj), (V.dt, V.ot), (V.dd, V.od)] ++ tl' ∧ ZAre V.accs n1 zs tl' tl2) ?_ ?_ _ 0 [] _ (Nat.zero_add _) rfl (by refine ⟨tl2, rfl, fun p hp => hp, fun j y hy => ?_⟩; simp at hy)
      · rintro zs nw v hlt ⟨tl', rfl, j1, j2⟩ hv
        obtain ⟨T, tT, k, x, rfl, hk2, hx2, hT2⟩ := hO1.2 zs.length v (by simpa using hv)
        have hT3 : (T, tupO [.int k tT, .ref x.a]) ∈ tl' := j1 _ (hO2.1 _ hT2)
        refine ⟨T, tupO [.int k tT, .ref x.a], .int k tT, .ref x.a, 0, rfl, List.mem_append_right _ hT3, rfl, rfl, ?_⟩
        intro I oI C oC D m₂ h2 tk2 E2 hC hx hxx F2 N2 off2 ne2
        obtain ⟨m1, m2, m3⟩ := acc_in (P := w.params) (rows := V.rows) (rest := rest) (accAt_mem hx2).1
        rw [hT] at m1 m2 m3
        have m1' := j1 _ (hO2.1 _ (hO1.1 _ m1))
        have m2' := j1 _ (hO2.1 _ (hO1.1 _ m2))
        clear N6 N4 N0 m1 m2 m3
        simp only [List.cons_append, List.nil_append] at F2 N2 off2
        k_steps
        exact LCg.CompEnd.intro (by k_asm) (by k_asm) ([(D4, LCg.lst us), (D3, PySem.W.listOf v3.toArray c3), (D2, LCg.lst ys), (D1, PySem.W.listOf v1.toArray c1), (L1 + 1 + 1, oc1), (L1 + 1, oc2), (V.st, instObj 439 V.ds), (V.ds, stO w.params V), (V.da, V.oa), (V.dj, rowsO V.rows V.nj), (V.dt, V.ot), (V.dd, V.od)] ++ (_, _) :: (_, _) :: tl') (comp_sub2 _) (comp_off _ (comp_off _ off2 (by assumption) (by assumption) (by assumption)) (by assumption) (by assumption) (by assumption)) (.inr ⟨LCg.lst ys, (by simp), rfl, _, rfl⟩) ⟨_, rfl, z_step ⟨j1, j2⟩ hk2 hx2⟩
      · rintro zs nw hlen3 ⟨tl3, rfl, hO3⟩
        unfold LCg.FinE
        intro D5 h7 tk7 F7 N7 off7
        simp only [List.cons_append, List.nil_append] at N7 off7
        k_steps
        unfold Halt
        have hn : n1 = n3 := lks_uniq (p1.trans (by rw [accKeys, ← hkk]; exact p3.symm)) o1 o3
        have hz : ys.length = n1.length := by rw [hlen]; exact i1.length
        have hz3 : us.length = n3.length := by rw [hlen2]; exact i3.length
        k_dflt (refine eq_pairs (w := w) (vs := zs) (us := us) (zs := n1.map fun k => (k, ((accAt V.accs k).map Acc.ct).getD noCt)) (News.isList (by k_asm) (by k_mem)) (News.isList (by k_asm) (by k_mem)) (by rw [hlen3, hz, List.length_map]) (by rw [hz3, List.length_map, hn]) (z_pairs H N7 ?s1 ?s4 hO3) (due_pairs (rest := rest) N7 ?s2 ?s3 hbb hn hO2) (by walk_at "UNC") ?_)
        case s4 => intro p hp; repeat first | exact hp | apply List.Mem.tail
        case s1 => intro p hp; rw [hT] at hp; have q := hO3.1 _ (hO2.1 _ (hO1.1 _ hp)); repeat first | exact q | apply List.Mem.tail
        case s3 => intro p hp; have q := hO3.1 _ hp; repeat first | exact q | apply List.Mem.tail
        case s2 => intro p hp; have q := hO3.1 _ (hO2.1 _ (hO1.1 _ (by rw [← hT]; exact List.mem_append_right _ (List.mem_append_right _ hp)))); repeat first | exact q | apply List.Mem.tail
        k_steps
        refine ret _ _ _ (stL w.params V rest) (by k_asm) (News.sub (by k_asm) (fun p hp => ?_)) ⟨rfl, rfl⟩
        rw [hl, hT] at hp
        simp only [List.mem_cons] at hp
        rcases hp with rfl | rfl | rfl | rfl | rfl | rfl | h
        · repeat first | exact .head _ | apply List.Mem.tail
        · repeat first | exact .head _ | apply List.Mem.tail
        · repeat first | exact .head _ | apply List.Mem.tail
        · repeat first | exact .head _ | apply List.Mem.tail
        · repeat first | exact .head _ | apply List.Mem.tail
        · repeat first | exact .head _ | apply List.Mem.tail
        · have q := hO3.1 _ (hO2.1 _ (hO1.1 _ h))
          repeat first | exact q | apply List.Mem.tail
-- PART 52a: dict(book)
section
variable {prog : Program} {w : World} {A : Around} {E : Value → Shared → Prop} {s : Shared} {h₀ : Heap} {L src : Addr} {m : Str → Option Value} {news : Led} {o : Obj} {kvs : List (Int × Value)}
theorem dict_copy {Q : Value → Shared → Prop} (F : Fr h₀ L s.heap m) (N : News h₀ L s.heap news) (hbig : h₀.NoLimit) (hm : (src, o) ∈ news) (hd : o.IsDictOf (PySem.intKind prog w) kvs) (lo : (src == sysModules) = false) (hsz : kvs.length ≤ sizeLine)
    (k : ∀ D h' o', Fr h₀ L h' m → News h₀ L h' ((D, o') :: news) → (∀ p ∈ news, p.1 < D) → (D == sysModules) = false → o'.IsDictOf (PySem.intKind prog w) kvs → Q (.ref D) { s with heap := h' }) :
    wpAny (model prog w) A (call (.type "dict") [.ref src]) Q E s := by
  refine kt_call_dict lo (Heap.dictOf_iff.mpr ⟨o, (N _ hm).1, hd⟩) hsz fun h' hm' hs => ?_
  obtain ⟨o', ho', hd'⟩ := Heap.dictOf_iff.mp hm'
  have N1 := News.push F N { cls := .type "dict", data := .dict #[] }
  exact k _ h' o' ((F.push _).change hs (N1 _ (.head _)).2.1 (N1.fresh (.head _))) (N1.setHead N.apart hs ho') (fun p hp => Heap.lt_size (N p hp).1) (F.notModules (modules_low hbig)) hd'
end
-- PART 52b: a book as the ledger bears it
def sumOf (cs : List (Int × Ct)) : Int := (cs.map (·.2.bal)).sum
def giv (cs : List (Int × Ct)) (home amt : Int) : Prop := 0 ≤ home ∧ home < 2 ^ 160 ∧ 0 ≤ amt ∧ amt < 2 ^ 64 ∧ sumOf cs + amt * 1000000000 < 2 ^ 256
/-- a book: its pairs bear the accounts' contents, in their order -/
inductive Bk (w : World) (l : Led) : List (Int × Value) → List (Int × Ct) → Prop
  | nil : Bk w l [] []
  | cons {k : Int} {v : Value} {c : Ct} {r : List (Int × Value)} {s : List (Int × Ct)} : BkE w l v c → Bk w l r s → Bk w l ((k, v) :: r) ((k, c) :: s)
theorem BkE.mono {w : World} {l l' : Led} {v : Value} {c : Ct} (h : BkE w l v c) (hs : ∀ p ∈ l, p ∈ l') : BkE w l' v c := by
  obtain ⟨U, t1, t2, t3, d, oD, t, e, m1, m2, h1, h2⟩ := h
  exact ⟨U, t1, t2, t3, d, oD, t, e, hs _ m1, hs _ m2, h1, h2⟩
section
variable {w : World} {l l' : Led} {kvs : List (Int × Value)} {cs : List (Int × Ct)}
theorem Bk.mono (h : Bk w l kvs cs) (hs : ∀ p ∈ l, p ∈ l') : Bk w l' kvs cs := by
  induction h with
  | nil => exact .nil
  | cons a _ ih => exact .cons (a.mono hs) ih
theorem Bk.keys (h : Bk w l kvs cs) : kvs.map (·.1) = cs.map (·.1) := by
  induction h with
  | nil => rfl
  | cons a _ ih => rw [List.map_cons, List.map_cons, ih]
theorem Bk.len (h : Bk w l kvs cs) : kvs.length = cs.length := by
  have := congrArg List.length h.keys
  rwa [List.length_map, List.length_map] at this
theorem Bk.get (h : Bk w l kvs cs) : ∀ {j : Nat} {kv : Int × Value}, kvs[j]? = some kv → ∃ c, cs[j]? = some (kv.1, c) ∧ BkE w l kv.2 c := by
  induction h with
  | nil => intro j kv e; simp at e
  | cons a _ ih =>
    intro j kv e
    cases j with
    | zero => simp at e; subst e; exact ⟨_, rfl, a⟩
    | succ j => simpa using ih (by simpa using e)
theorem valueAt_cons (k k' : Int) (v : Value) (r : List (Int × Value)) : valueAt ((k', v) :: r) k = if k' = k then some v else valueAt r k := by
  unfold valueAt
  rw [List.find?_cons]
  by_cases e : k' = k <;> simp [e]
theorem ctAt_cons (k k' : Int) (c : Ct) (r : List (Int × Ct)) : ctAt ((k', c) :: r) k = if k' = k then some c else ctAt r k := by
  unfold ctAt
  rw [List.find?_cons]
  by_cases e : k' = k <;> simp [e]
theorem Bk.at (h : Bk w l kvs cs) (k : Int) : (valueAt kvs k = none ∧ ctAt cs k = none) ∨ ∃ v c, valueAt kvs k = some v ∧ ctAt cs k = some c ∧ BkE w l v c := by
  induction h with
  | nil => exact .inl ⟨rfl, rfl⟩
  | @cons k' v c r s a _ ih =>
    rw [valueAt_cons, ctAt_cons]
    by_cases e : k' = k
    · rw [if_pos e, if_pos e]; exact .inr ⟨_, _, rfl, rfl, a⟩
    · rw [if_neg e, if_neg e]; exact ih
theorem Bk.app {k : Int} {v : Value} {c : Ct} (h : Bk w l kvs cs) (e : BkE w l v c) : Bk w l (kvs ++ [(k, v)]) (cs ++ [(k, c)]) := by
  induction h with
  | nil => exact .cons e .nil
  | cons a _ ih => exact .cons a ih
theorem Bk.set {k : Int} {v : Value} {f : Ct → Ct} (h : Bk w l kvs cs) (e : ∀ c, ctAt cs k = some c → BkE w l v (f c)) (hn : (cs.map (·.1)).Nodup) :
    Bk w l (kvs.map fun kv => if kv.1 = k then (kv.1, v) else kv) (cs.map fun x => if x.1 = k then (k, f x.2) else x) := by
  induction h with
  | nil => exact .nil
  | @cons k' v' c r s a b ih =>
    rw [List.map_cons, List.nodup_cons] at hn
    rw [List.map_cons, List.map_cons]
    have e2 : ∀ c, ctAt s k = some c → BkE w l v (f c) := fun c' hc => e c' (by
      rw [ctAt_cons]
      by_cases q : k' = k
      · exfalso
        refine hn.1 ?_
        unfold ctAt at hc
        obtain ⟨y, hy, -⟩ := Option.map_eq_some_iff.mp hc
        have h2 : y.1 = k := by simpa using List.find?_some hy
        exact List.mem_map.mpr ⟨y, List.mem_of_find?_eq_some hy, h2.trans q.symm⟩
      · rw [if_neg q]; exact hc)
    have r2 := ih e2 hn.2
    by_cases q : k' = k
    · subst q
      simp only [if_true]
      exact .cons (e c (by rw [ctAt_cons, if_pos rfl])) r2
    · simp only [if_neg q]
      exact .cons a r2
theorem Bk.put {k : Int} {v : Value} {f : Ct → Ct} (h : Bk w l kvs cs) (e : BkE w l v (f ((ctAt cs k).getD noCt))) (hn : (kvs.map (·.1)).Nodup) : Bk w l (stored kvs k v) (updC cs k f) := by
  unfold stored updC
  have hn2 : (cs.map (·.1)).Nodup := by rw [← h.keys]; exact hn
  rcases h.at k with ⟨h1, h2⟩ | ⟨v', c, h1, h2, -⟩
  · have q : (kvs.any fun kv => decide (kv.1 = k)) = false := by rw [← valueAt_isSome_eq_any, h1]; rfl
    rw [q, h2]
    rw [h2] at e
    simp only [Bool.false_eq_true, if_false, Option.isSome_none]
    exact h.app e
  · have q : (kvs.any fun kv => decide (kv.1 = k)) = true := by rw [← valueAt_isSome_eq_any, h1]; rfl
    rw [q, h2]
    rw [h2] at e
    simp only [if_true, Option.isSome_some]
    exact h.set (fun c' hc => by rw [h2] at hc; cases hc; exact e) hn2
end
theorem valueAt_idx {kvs : List (Int × Value)} {k : Int} {v : Value} (h : valueAt kvs k = some v) : ∃ j : Nat, kvs[j]? = some (k, v) := by
  unfold valueAt at h
  obtain ⟨y, hy, rfl⟩ := Option.map_eq_some_iff.mp h
  have h1 := List.mem_of_find?_eq_some hy
  have h2 := List.find?_some hy
  obtain ⟨j, hj⟩ := List.getElem?_of_mem h1
  have h3 : y.1 = k := by simpa using h2
  exact ⟨j, by rw [hj, ← h3]⟩
def addC (amt : Int) (c : Ct) : Ct := { c with bal := c.bal + amt * 1000000000 }
def Fresh3 (l : Led) (a b c : Addr) : Prop := @LT.lt Nat _ a b ∧ @LT.lt Nat _ b c ∧ AllLt a l
def GivPost (w : World) (l R : Led) (kvs : List (Int × Value)) (cs : List (Int × Ct)) (home amt : Int) (r : Value) (l' : Led) : Prop :=
  (¬ giv cs home amt ∧ r = .none ∧ l' = l) ∨
  (giv cs home amt ∧ ∃ (D S T : Addr) (oD oS oT : Obj) (kvs' : List (Int × Value)), r = .ref D ∧ l' = (T, oT) :: (S, oS) :: (D, oD) :: l ∧ Fresh3 l D S T ∧ oD.IsDictOf (PySem.intKind pw w) kvs' ∧ (D == sysModules) = false ∧ kvs'.length ≤ kvs.length + 1 ∧
    Bk w ((T, oT) :: (S, oS) :: (D, oD) :: R) kvs' (updC cs home (addC amt)))
theorem GivPost.el {w : World} {l R : Led} {kvs : List (Int × Value)} {cs : List (Int × Ct)} {home amt : Int} (M : Value → Led → Prop)
    (h : (¬ giv cs home amt → M .none l) ∧ (giv cs home amt → ∀ (D S T : Addr) (oD oS oT : Obj) (kvs' : List (Int × Value)), Fresh3 l D S T → oD.IsDictOf (PySem.intKind pw w) kvs' → (D == sysModules) = false → kvs'.length ≤ kvs.length + 1 →
      Bk w ((T, oT) :: (S, oS) :: (D, oD) :: R) kvs' (updC cs home (addC amt)) → M (.ref D) ((T, oT) :: (S, oS) :: (D, oD) :: l))) : ∀ r l', GivPost w l R kvs cs home amt r l' → M r l' := by
  rintro r l' (⟨a, rfl, rfl⟩ | ⟨a, D, S, T, oD, oS, oT, kvs', rfl, rfl, b, c, d, e, f⟩)
  · exact h.1 a
  · exact h.2 a D S T oD oS oT kvs' b c d e f
theorem giv_end {w : World} {l R : Led} {kvs : List (Int × Value)} {cs : List (Int × Ct)} {home amt n b : Int} {D S T d : Addr} {oD oS od : Obj} {cd : Array UInt8} {t1 t2 t3 t : Tok} {c : Ct} (hbb : Bk w R kvs cs) (hn : (kvs.map (·.1)).Nodup) (hg : giv cs home amt)
    (hd : oD.IsDictOf (PySem.intKind pw w) (stored kvs home (.ref T))) (hnD : (D == sysModules) = false) (l1 : @LT.lt Nat _ D S) (l2 : @LT.lt Nat _ S T) (l3 : AllLt D l)
    (hc : (ctAt cs home).getD noCt = c) (e1 : n = c.nonce) (e2 : b = c.bal + amt * 1000000000) (e3 : cd = c.code) (hdm : (d, od) ∈ (S, oS) :: R) (hod : od.IsDictOf (PySem.intKind pw w) (slKvs c.sl t)) (hdn : (d == sysModules) = false) :
    GivPost w l R kvs cs home amt (.ref D) ((T, tupO [.int n t1, .int b t2, .bytes cd t3, .ref d]) :: (S, oS) :: (D, oD) :: l) := by
  subst e1 e2 e3 hc
  have hs : ∀ p ∈ R, p ∈ (T, tupO [.int ((ctAt cs home).getD noCt).nonce t1, .int (((ctAt cs home).getD noCt).bal + amt * 1000000000) t2, .bytes ((ctAt cs home).getD noCt).code t3, .ref d]) :: (S, oS) :: (D, oD) :: R := fun p hp => .tail _ (.tail _ (.tail _ hp))
  refine .inr ⟨hg, D, S, T, oD, oS, _, _, rfl, rfl, ⟨l1, l2, l3⟩, hd, hnD, ?_, (hbb.mono hs).put ⟨T, t1, t2, t3, d, od, t, rfl, .head _, ?_, hod, hdn⟩ hn⟩
  · unfold stored
    split
    · rw [List.length_map]; exact Nat.le_succ _
    · rw [List.length_append]; exact Nat.le_refl _
  · rcases List.mem_cons.mp hdm with h | h
    · rw [h]; exact .tail _ (.head _)
    · exact hs _ h
theorem giv_sub {a b c d e f p : Addr × Obj} {l : Led} (h : p ∈ a :: c :: d :: l) : p ∈ a :: b :: c :: d :: e :: f :: l := by
  rcases List.mem_cons.mp h with h | h
  · exact h ▸ .head _
  · exact (List.mem_append (s := [c, d]) (t := l)).mp h |>.elim (fun q => .tail _ (.tail _ (List.mem_append_left (e :: f :: l) q))) (fun q => .tail _ (.tail _ (List.mem_append_right [c, d] (.tail _ (.tail _ q)))))
-- PART 52: _law_given walked
theorem giv_mem {a b c d e p : Addr × Obj} {R l : Led} {h₀ h : Heap} {L : Addr} (hp : p ∈ a :: R) (hs : ∀ p ∈ R, p ∈ l) (N : News h₀ L h (a :: b :: c :: d :: e :: l)) : p ∈ a :: b :: c :: d :: e :: l := by
  rcases List.mem_cons.mp hp with h | h
  · exact h ▸ .head _
  · exact .tail _ (.tail _ (.tail _ (.tail _ (.tail _ (hs _ h)))))
set_option maxHeartbeats 8000000 in
theorem given_con {w : World} (l R : Led) (hRl : ∀ p ∈ R, p ∈ l) (bk : Addr) (bo : Obj) (kvs : List (Int × Value)) (cs : List (Int × Ct)) (home amt : Int) (t u : Tok) (hbm : (bk, bo) ∈ l) (hbo : bo.IsDictOf (PySem.intKind pw w) kvs) (hbn : (bk == sysModules) = false) (h64 : kvs.length < 64)
    (hbb : Bk w R kvs cs) :
    Con w none 467 [.ref bk, .int home t, .int amt u] 20 200 l (GivPost w l R kvs cs home amt) := by
  intro mean mg mb dp un gd cn csc a ccd cl outer A₀ base h₀ L m s Q E B F X N T hk hd hu ret
  have e160 : (2 : Int) ^ Int.toNat 160 = 1461501637330902918203684832716283019655932542976 := by decide +kernel
  have e64 : (2 : Int) ^ Int.toNat 64 = 18446744073709551616 := by decide +kernel
  have e256 : (2 : Int) ^ Int.toNat 256 = 115792089237316195423570985008687907853269984665640564039457584007913129639936 := by decide +kernel
  have e9 : (10 : Int) ^ Int.toNat 9 = 1000000000 := by decide +kernel
  have em : amt * (10 : Int) ^ Int.toNat 9 = amt * 1000000000 := by rw [e9]
  k_dflt ktr_enter
  k_steps
  · exact ret _ _ _ l (by k_asm) (News.sub (by k_asm) (fun p hp => by simp [hp])) (.inl ⟨by unfold giv sumOf; omega, rfl, rfl⟩)
  · exact ret _ _ _ l (by k_asm) (News.sub (by k_asm) (fun p hp => by simp [hp])) (.inl ⟨by unfold giv sumOf; omega, rfl, rfl⟩)
  · exact ret _ _ _ l (by k_asm) (News.sub (by k_asm) (fun p hp => by simp [hp])) (.inl ⟨by unfold giv sumOf; omega, rfl, rfl⟩)
  · exact ret _ _ _ l (by k_asm) (News.sub (by k_asm) (fun p hp => by simp [hp])) (.inl ⟨by unfold giv sumOf; omega, rfl, rfl⟩)
  unfold Halt
  k_dflt (refine ListComp_D (F₀ := by k_asm) (by with_unfolding_all rfl) (by decide) (by rfl) (by decide) (by rfl) ?_)
  k_steps
  refine ⟨bk, bo, kvs, _, rfl, rfl, by k_asm, by k_asm, by k_mem, hbo, hbn, (by rw [sizeLine_eq]; omega), fun s₂ e2 => ?_⟩
  obtain ⟨hh2, e2⟩ := e2
  subst e2
  refine compRest_map (R := fun i y => ∃ z t, cs[i]? = some z ∧ y = .int z.2.bal t) ?_ ?_
  · intro i v I oI C oC D ys m₂ h2 tk2 E2 hi hJ9 hC hx F2 N2 off2 ne2
    (try k_fold)
    obtain ⟨k, x, t5, hku, rfl⟩ := hJ9
    have hvk := valueAt_of_get (hbo.choose_spec.choose_spec.2.2.2.2) hku
    obtain ⟨c1, hc1, U, t1, t2, t3, d, oD, tD, rfl, mU, md, hoD, hdn⟩ := hbb.get hku
    have mU := hRl _ mU
    k_steps
    exact LCg.CompEnd.intro (by k_asm) (by k_asm) _ (fun p hp => hp) off2 (by k_mem) ⟨rfl, (k, c1), _, hc1, rfl⟩
  · intro ys hlen hR
    have hI : IntsAre ys (cs.map (·.2.bal)) := ints_of hlen (by rw [List.length_map]; exact hbb.len) (fun j y hj => by
      obtain ⟨z, t, h1, h2⟩ := hR j y hj
      exact ⟨t, by rw [List.getElem?_map, h1]; exact h2 ▸ rfl⟩)
    unfold LCg.FinE
    intro D h3 tk3 F3 N3 off3
    k_steps
    · exact ret _ _ _ l (by k_asm) (News.sub (by k_asm) (fun p hp => by simp [hp])) (.inl ⟨by unfold giv sumOf; omega, rfl, rfl⟩)
    unfold Halt
    k_dflt (refine dict_copy (o := bo) (kvs := kvs) (by k_asm) (by k_asm) (Top.nolimit (by k_asm)) (by k_mem) hbo hbn (by rw [sizeLine_eq]; omega) ?_)
    intro D2 h4 o2 F4 N4 l4 hn4 hd4
    k_lt l4
    have hgv : giv cs home amt := ⟨by omega, by omega, by omega, by omega, by unfold sumOf; omega⟩
    have hszk : kvs.length ≤ sizeLine := by rw [sizeLine_eq]; omega
    obtain ⟨ov, hov⟩ : ∃ ov, valueAt kvs home = ov := ⟨_, rfl⟩
    k_steps
    rename_i dS hS1 oS loS hsS fsS hiS fiS _ _ _ _ TT hT FT NT lt1 lt2 lt3 lt4 lt5
    obtain ⟨oT, hoT, NT⟩ : ∃ oT, oT = tupO [.int 0 (tk + 1), .int 0 (tk + 1 + 1), .bytes #[] (tk + 1 + 1 + 1), .ref dS] ∧ News _ _ hT ((TT, oT) :: (dS, oS) :: (D2, o2) :: (D, LCg.lst ys) :: (_, _) :: l) := ⟨_, rfl, NT⟩
    obtain ⟨c1, U, t1, t2, t3, d, oD, tD, hU, mU, md, hoD, hdn, hcd⟩ : ∃ (c1 : Ct) (U : Addr) (t1 t2 t3 : Tok) (d : Addr) (oD : Obj) (tD : Tok), ov.getD (.ref TT) = .ref U ∧ (U, tupO [.int c1.nonce t1, .int c1.bal t2, .bytes c1.code t3, .ref d]) ∈ (TT, oT) :: R ∧ (d, oD) ∈ (dS, oS) :: R ∧ oD.IsDictOf (PySem.intKind pw w) (slKvs c1.sl tD) ∧ (d == sysModules) = false ∧ (ctAt cs home).getD noCt = c1 := by
      rcases hbb.at home with ⟨q1, q2⟩ | ⟨v, c, q1, q2, U, t1, t2, t3, d, oD, tD, rfl, mU, md, hoD, hdn⟩
      · rw [hov] at q1
        subst q1 hoT
        exact ⟨noCt, TT, _, _, _, dS, oS, 0, rfl, .head _, .head _, hiS, loS, by rw [q2]; rfl⟩
      · rw [hov] at q1
        subst q1
        exact ⟨c, U, t1, t2, t3, d, oD, tD, rfl, .tail _ mU, .tail _ md, hoD, hdn, by rw [q2]; rfl⟩
    have mU2 := giv_mem mU hRl NT
    dsimp only [Option.getD] at hU
    rw [hU]
    clear hoT
    k_steps
    refine ret _ _ _ ((_, _) :: (_, _) :: (D2, _) :: l) (by k_asm) (News.sub (by k_asm) (fun p hp => giv_sub hp)) ?_
    exact (giv_end (c := c1) hbb (kvs_nodup hbo) hgv (by assumption) hn4 (by assumption) (by assumption) (by assumption) hcd rfl (by rw [e9]) rfl md hoD hdn)
-- PART 53a: dict(a list of pairs)
section
variable {prog : Program} {w : World} {A : Around} {E : Value → Shared → Prop} {s : Shared}
theorem getQ_miss_list {a : Addr} {o : Obj} {xs : Array Value} {k : Nat} {name : Str} {Q : Option Value → Shared → Prop}
    (hx : s.heap.get? a = some o) (hc : o.cls = .type "list") (hdat : o.data = .seq xs k) (hd : o.dict = none) (hmiss : typeLookup (.type "list") name = pure none) (hname : (["__module__", "__name__", "__qualname__", "__doc__", "__annotations__"] : List Str).contains name = false) (hA : A.handled = none)
    (h : ∀ h' tk e, Heap.NewExcOf s.heap h' e "AttributeError" → Q none { s with heap := h', toks := tk }) (hsz : name.length + 100 ≤ sizeLine := by size_fits) :
    wpAny (model prog w) A (getAttr? (.ref a) name) Q E s := by
  obtain ⟨c, dct, dat, sl⟩ := o
  simp only at hc hdat hd
  subst hc hdat hd
  obtain ⟨hp, g, d, tk, os⟩ := s
  have hT : ∀ tk', (⟨hp, g, d, tk', os⟩ : Shared).TypeIs (.ref a) "list" := fun _ => ⟨_, hx, rfl⟩
  have f1 := sub_AttributeError
  have f3 := F.slot_list_getattribute.lookup
  have f4 := F.slot_list_getattribute.bind (.ref a)
  have f5 := am_list_getattr_none
  unfold getAttr? getAttrBy? getAttrBy
  repeat (any_goals (first | assumption | exact hT _ | ((with_reducible show wpAny _ _ (call (Value.builtin "list.__getattribute__") _ _) _ _ _); refine call_meets F.slot_list_getattribute (hT _) am_entry_list_getattribute (F.args_list_getattribute_2 _ _) (meets_getattribute_miss_list a xs k sl name _ hmiss hname hsz) ⟨hx, hA, fun h' tk' e hx' => ?_⟩) | wp_step))
  obtain ⟨t', u', he⟩ := hx'.there
  show wpAny _ _ (getattributeRaised _ _ _ _ _ _ _) _ _ _
  unfold getattributeRaised
  repeat (any_goals (first | assumption | wp_step))
  exact h _ _ _ hx'.of
theorem dictOf_at {h h' : Heap} {a : Addr} {kvs : List (Int × Value)} (hm : h.DictOf (PySem.intKind prog w) a kvs) (e : ∀ o, h.get? a = some o → h'.get? a = some o) : h'.DictOf (PySem.intKind prog w) a kvs :=
  let ⟨o, es, ep, ho, r⟩ := hm; ⟨o, es, ep, e o ho, r⟩
def PairsIn (h : Heap) (d I : Addr) (vs : List Value) (kvs : List (Int × Value)) : Prop := ∀ (j : Nat) (v : Value), vs[j]? = some v → ∃ (T : Addr) (k : Int) (t : Tok) (x : Value), v = Value.ref T ∧ kvs[j]? = some (k, x) ∧ h.IsTuple T #[.int k t, x] ∧ @Ne Nat T d ∧ @Ne Nat T I
theorem entry_upd : entryFor table "dict.update.loop" = some Builtin.«dict.update.loop» := entryFor_of_tree (by kernel_rfl)
theorem upd_loop {d I src : Addr} {vs : List Value} {kvs : List (Int × Value)} (hA : A.handled = none) (hl : vs.length = kvs.length) (hn : (kvs.map (·.1)).Nodup) (hsz : kvs.length ≤ sizeLine) (hsI : @Ne Nat src I) (hsd : @Ne Nat src d) (hdI : @Ne Nat d I) :
    ∀ (n i : Nat) (A : Around) (s : Shared) (R : Result → Shared → Prop) (t : Tok), A.handled = none → i + n = vs.length → s.heap.IsListIter I src i → s.heap.IsList src vs.toArray → s.heap.DictOf (PySem.intKind prog w) d (kvs.take i) → PairsIn s.heap d I vs kvs →
      (∀ h' tk', h'.DictOf (PySem.intKind prog w) d kvs → (∀ b o, b ≠ I → b ≠ d → s.heap.get? b = some o → h'.get? b = some o) → R (.ok (.ret .none)) { s with heap := h', toks := tk' }) →
      codeAny (model prog w) A (.builtin "dict.update.loop" ⟨[.ref d, .ref I, .int i t, .none], []⟩) R s := by
  intro n
  induction n with
  | zero =>
    intro i A s R t hA hi hI hL hD hP ret
    refine codeAny_builtin entry_upd ?_
    have W := Walks.list (prog := prog) (w := w) (A := A.under (.builtin "dict.update.loop" ⟨[.ref d, .ref I, .int i t, .none], []⟩)) hA I src hsI vs.toArray
    unfold Builtin.«dict.update.loop»
    refine wpAny_bind (W.done _ _ _ ?_ fun h' tk hk => ?_)
    · rw [show vs.toArray.size = i by simp; omega]; exact ⟨hI, hL⟩
    · refine wpAny_bind (wpAny_pure (wpAny_pure (ret h' tk ?_ fun b o hb _ ho => hk b o (fun q => hb (List.mem_singleton.mp q)) ho)))
      have e : kvs.take i = kvs := List.take_of_length_le (by omega)
      rw [e] at hD
      exact dictOf_at hD fun o ho => hk d o (fun q => hdI (List.mem_singleton.mp q)) ho
  | succ n ih =>
    intro i A s R t hA hi hI hL hD hP ret
    refine codeAny_builtin entry_upd ?_
    have W := Walks.list (prog := prog) (w := w) (A := A.under (.builtin "dict.update.loop" ⟨[.ref d, .ref I, .int i t, .none], []⟩)) hA I src hsI vs.toArray
    unfold Builtin.«dict.update.loop»
    refine wpAny_bind (W.item i _ _ _ (by simp; omega) ⟨hI, hL⟩ fun v h' tk hv hst hk => ?_)
    have hv' : vs[i]? = some v := by simpa using hv
    obtain ⟨T, k, t', x, rfl, hkv, hT, hTd, hTI⟩ := hP i v hv'
    have hki : ∀ b o, b ≠ I → s.heap.get? b = some o → h'.get? b = some o := fun b o hb ho => hk b o (fun q => hb (List.mem_singleton.mp q)) ho
    obtain ⟨oT, hoT, hcT, nT, hdT⟩ := hT
    have hoT' := hki _ _ hTI hoT
    refine wpAny_bind (wpAny_holding (wpAny_bind (wpAny_tryCatch ?_)))
    unfold Builtin.Dict.pairItems
    refine wpAny_bind (wpAny_typeOf (show (Shared.TypeIs _ (Value.ref T) "tuple") from ⟨_, hoT', hcT⟩) ?_)
    rw [if_pos (by decide)]
    refine wpAny_bind (wpAny_seqItems hoT' hdT (wpAny_pure ?_))
    show wpAny _ _ (holding [Value.int k t', x] (dictSet d (.int k t') x)) _ _ _
    have hD' := dictOf_at (h' := h') hD fun o ho => hki d o hdI ho
    refine wpAny_holding (wpAny_dictSet_pairs (knd := PySem.intKind prog w) (intKind_is _ _ _ _) hD' (fun h2 hD2 hs2 => ?_) (by rw [List.length_take]; omega))
    have hlt : i < kvs.length := (List.getElem?_eq_some_iff.mp hkv).1
    have e2 : stored (kvs.take i) k x = kvs.take (i + 1) := by
      have := merged_take_succ [] kvs i (k, x) hkv
      have f1 : ∀ j, merged [] (kvs.take j) = kvs.take j := fun j => merged_nil_of_nodup _ (List.Nodup.sublist (List.Sublist.map _ (List.take_sublist _ _)) hn)
      rw [f1, f1] at this
      exact this.symm
    rw [e2] at hD2
    have hold : ∀ b o, b ≠ I → b ≠ d → s.heap.get? b = some o → h2.get? b = some o := fun b o h1 h3 ho => hs2.extBut b o h3 (hki b o h1 ho)
    refine wpAny_pure ⟨Code.quiet_builtin _ (by decide +kernel), ?_⟩
    refine ih (i + 1) _ _ _ 0 hA (by omega) ?_ ?_ hD2 ?_ fun h3 tk3 hD3 hk3 => ret h3 tk3 hD3 fun b o h1 h4 ho => hk3 b o h1 h4 (hold b o h1 h4 ho)
    · exact hst.1.at fun o ho => hs2.extBut I o (Ne.symm hdI) ho
    · exact hst.2.at fun o ho => hs2.extBut src o hsd ho
    · intro j v' hj
      obtain ⟨T2, k2, t2, x2, e, h5, ⟨o6, h6, h7⟩, h8, h9⟩ := hP j v' hj
      exact ⟨T2, k2, t2, x2, e, h5, ⟨o6, hold _ _ h9 h8 h6, h7⟩, h8, h9⟩
end
-- PART 53b: dict(a list of pairs), over the ledger
section
variable {prog : Program} {w : World} {A : Around} {E : Value → Shared → Prop} {s : Shared} {h₀ : Heap} {L src : Addr} {m : Str → Option Value} {news : List (Addr × Obj)}
theorem lk_list_keys : typeLookup (.type "list") "keys" = pure none := by rw [typeLookup_type, builtinLookup_eq_fast]; kernel_rfl
theorem dict_pairs {Q : Value → Shared → Prop} {n : Nat} {vs : List Value} {kvs : List (Int × Value)} (hh : A.handled = none) (F : Fr h₀ L s.heap m) (N : News h₀ L s.heap news) (hbig : h₀.NoLimit) (hm : (src, PySem.W.listOf vs.toArray n) ∈ news) (hl : vs.length = kvs.length) (hn : (kvs.map (·.1)).Nodup) (hsz : kvs.length ≤ sizeLine)
    (hv : ∀ (j : Nat) (v : Value), vs[j]? = some v → ∃ (T : Addr) (k : Int) (t : Tok) (x : Value), v = Value.ref T ∧ kvs[j]? = some (k, x) ∧ (T, tupO [.int k t, x]) ∈ news)
    (k : ∀ D h' tk o', Fr h₀ L h' m → News h₀ L h' ((D, o') :: news) → (∀ p ∈ news, p.1 < D) → (D == sysModules) = false → o'.IsDictOf (PySem.intKind prog w) kvs → Q (.ref D) { s with heap := h', toks := tk }) :
    wpAny (model prog w) A (call (.type "dict") [.ref src]) Q E s := by
  refine callType_codes (Q₁ := fun obj s₁ => obj = .ref s.heap.objs.size ∧ s₁ = { s with heap := s.heap.push { cls := .type "dict", data := .dict #[] } }) PySem.F.kt_called_dict (PySem.F.kt_typeCall_dict_1 _) PySem.F.entry_dict_init (kt_code_dict_new _ ⟨rfl, rfl⟩) ?_
  rintro obj s₁ ⟨rfl, rfl⟩
  have hnew : (s.heap.push { cls := .type "dict", data := .dict #[] }).DictOf (PySem.intKind prog w) s.heap.objs.size [] := Heap.DictOf.new s.heap
  have hup : ∀ b o, s.heap.get? b = some o → (s.heap.push { cls := .type "dict", data := .dict #[] }).get? b = some o := fun b o e => Heap.get?_push_of_some _ e
  have hls := hup _ _ (N _ hm).1
  have hlt : ∀ b o, s.heap.get? b = some o → b < s.heap.objs.size := fun b o e => Heap.lt_size e
  refine ⟨hnew.typeIs, PySem.F.args_dict_init_2 _ _, ?_⟩
  unfold Builtin.«dict.__init__»
  refine wpAny_bind ?_
  unfold Builtin.Dict.selfAndRest
  refine wpAny_bind (wpAny_notOrdered_dict hnew.typeIs ?_)
  show wpAny _ _ (pure (s.heap.objs.size, [Value.ref src])) _ _ _
  refine wpAny_pure ?_
  show wpAny _ _ (Builtin.Dict.updateFrom "dict.__init__" s.heap.objs.size (.ref src) [] .none) _ _ _
  unfold Builtin.Dict.updateFrom
  refine wpAny_bind (wpAny_typeOf (show (Shared.TypeIs _ (Value.ref src) "list") from ⟨_, hls, rfl⟩) ?_)
  rw [if_pos (by decide)]
  refine wpAny_bind (getQ_miss_list hls rfl rfl rfl lk_list_keys (by decide +kernel) hh (fun h2 tk2 e hx => ?_) (by decide +kernel))
  rw [if_pos (by rfl)]
  have k2 : ∀ b o, s.heap.get? b = some o → h2.get? b = some o := fun b o e => hx.keeps b o (hup b o e)
  have hD2 : h2.DictOf (PySem.intKind prog w) s.heap.objs.size [] := dictOf_at hnew fun o e => hx.keeps _ o e
  refine wpAny_bind (wpAny_rule (wpAny_bind (wpAny_pyIter_list (items := vs.toArray) (show Heap.IsList h2 src vs.toArray from ⟨_, k2 _ _ (N _ hm).1, rfl, _, rfl⟩) ?_)))
  refine wpAny_pure ⟨Code.quiet_builtin _ (by decide +kernel), ?_⟩
  have up3 : ∀ b o, h2.get? b = some o → (h2.push { cls := .type "list_iterator", data := .fields #[.ref src, .int 0 0] }).get? b = some o := fun b o e => Heap.get?_push_of_some _ e
  have lt2 : ∀ b o, h2.get? b = some o → @Ne Nat b h2.objs.size := fun b o e => Nat.ne_of_lt (Heap.lt_size e)
  have hsrc := (N _ hm).1
  obtain ⟨oD, eD, epD, hoD, hrD⟩ := hD2
  refine upd_loop (src := src) (vs := vs) (kvs := kvs) hh hl hn hsz (lt2 _ _ (k2 _ _ hsrc)) (Nat.ne_of_lt (hlt _ _ hsrc)) (lt2 _ _ hoD) vs.length 0 _ _ _ 0 hh (Nat.zero_add _) ⟨_, Heap.get?_push_size _ rfl, rfl, rfl⟩ ⟨_, up3 _ _ (k2 _ _ hsrc), rfl, _, rfl⟩ ⟨oD, eD, epD, up3 _ _ hoD, hrD⟩ ?_ fun h4 tk4 hD4 hk4 => ?_
  · intro j v hj
    obtain ⟨T, k, t, x, e1, e2, e3⟩ := hv j v hj
    have hT := (N _ e3).1
    exact ⟨T, k, t, x, e1, e2, ⟨_, up3 _ _ (k2 _ _ hT), rfl, _, rfl⟩, Nat.ne_of_lt (hlt _ _ hT), lt2 _ _ (k2 _ _ hT)⟩
  · have k4 : ∀ b o, s.heap.get? b = some o → h4.get? b = some o := fun b o e => hk4 b o (lt2 _ _ (k2 _ _ e)) (Nat.ne_of_lt (hlt _ _ e)) (up3 _ _ (k2 _ _ e))
    obtain ⟨o', ho', hd'⟩ := Heap.dictOf_iff.mp hD4
    refine ⟨rfl, k _ h4 tk4 o' (F.keeps k4) (fun p hp => ?_) (fun p hp => hlt _ _ (N p hp).1) (F.notModules (modules_low hbig)) hd'⟩
    rcases List.mem_cons.mp hp with rfl | hp
    · exact ⟨ho', Nat.ne_of_gt F.ns.lt, none_at_size F⟩
    · exact ⟨k4 _ _ (N p hp).1, (N p hp).2⟩
end
-- PART 53c: a comprehension over a dict's keys, with a test
section
variable {prog : Program} {w : World} {A : Around} {E : Value → Shared → Prop} {s : Shared} {h₀ : Heap} {L : Addr} {m : Str → Option Value} {env : Env}
open LCg LCt
theorem compRestT_inv {ct elt : Expr} {x : Str} {scope : Scope} {cl : List (Str × Addr)} {S : Led → Prop} {P : Nat → Value → Prop} {Fin : List Value → Led → Prop} {n : Nat} (J : Nat → List Value → Led → Prop)
    (turn : ∀ i ys news v I oI C oC D m₂ h tk (E' : Value → Shared → Prop), i < n → J i ys news → P i v → NsObj oC m₂ → m₂ x = some v → Fr h₀ L h m → News h₀ L h ((I, oI) :: (C, oC) :: (D, lst ys) :: news) → Off3 I C D news → ((@Ne Nat I C) ∧ (@Ne Nat I D) ∧ (@Ne Nat C D)) →
      wpAny (model prog w) A (isTrue ct (compEnvC scope cl C env) (eval ct (compEnvC scope cl C env))) (fun ok s' => if ok = true then
        wpAny (model prog w) A (eval elt (compEnvC scope cl C env)) (CompEnd h₀ L m { s with heap := h, toks := tk } I oI C oC D (lst ys) S (fun y news' => J (i + 1) (ys ++ [y]) news')) E' s'
        else CompEnd h₀ L m { s with heap := h, toks := tk } I oI C oC D (lst ys) S (fun _ news' => J (i + 1) ys news') Value.none s') E' { s with heap := h, toks := tk })
    (fin : ∀ ys news, J n ys news → Fin ys news) :
    ∀ k i ys news, i + k = n → J i ys news → CompRestT prog w A h₀ L m env ct elt x scope cl s S P Fin k i ys news := by
  intro k
  induction k with
  | zero => intro i ys news h1 hJ; exact CompRestT.zero (fin ys news (by have : i = n := h1; rw [← this]; exact hJ))
  | succ k ih =>
    intro i ys news h1 hJ
    refine CompRestT.succ fun v I oI C oC D m₂ h tk E' hP hC hx F N off ne => ?_
    refine wpAny_mono (turn i ys news v I oI C oC D m₂ h tk E' (by omega) hJ hP hC hx F N off ne) (fun ok s' hok => ?_) fun _ _ e => e
    cases ok with
    | true =>
      simp only [if_true] at hok ⊢
      refine wpAny_mono hok (fun y s' hy => ?_) fun _ _ e => e
      obtain ⟨h', tk', news', e, F', N', off', hS, hJ'⟩ := hy
      exact ⟨h', tk', news', e, F', N', off', hS, ih (i + 1) (ys ++ [y]) news' (by omega) hJ'⟩
    | false =>
      simp only [Bool.false_eq_true, if_false] at hok ⊢
      obtain ⟨h', tk', news', e, F', N', off', hS, hJ'⟩ := hok
      exact ⟨h', tk', news', e, F', N', off', hS, ih (i + 1) ys news' (by omega) hJ'⟩
def SrcDT (prog : Program) (w : World) (A : Around) (h₀ : Heap) (L : Addr) (m : Str → Option Value) (env : Env) (ct elt : Expr) (x : Str) (scope : Scope) (cl : List (Str × Addr)) (Fin : Shared → List Value → Led → Prop) (xv : Value) (s₁ : Shared) : Prop :=
  ∃ (d : Addr) (o : Obj) (kvs : List (Int × Value)) (news : Led), xv = .ref d ∧ A.handled = none ∧ Fr h₀ L s₁.heap m ∧ News h₀ L s₁.heap news ∧ (d, o) ∈ news ∧ o.IsDictOf (PySem.intKind prog w) kvs ∧ (d == sysModules) = false ∧ kvs.length ≤ sizeLine ∧
    ∀ s₂ : Shared, (∃ h, s₂ = { s₁ with heap := h }) → CompRestT prog w A h₀ L m env ct elt x scope cl s₂ (fun nw => (d, o) ∈ nw) (fun i v => ∃ k u t, kvs[i]? = some (k, u) ∧ v = .int k t) (Fin s₂) kvs.length 0 [] news
theorem ListComp_DT {ct elt iter : Expr} {x : Str} {px : Pos} {scope : Scope} {cl : List (Str × Addr)} {pos : Pos} {Q : Value → Shared → Prop} (F₀ : Fr h₀ L s.heap m)
    (hclos : closureFor scope env = pure cl) (hcell : ∀ y ∈ scope.names, y.2 ≠ .cell) (hkind : scope.kind = .function)
    (hnames : ∀ y ∈ scope.names, y.2 = .local → scope.names.lookup y.1 = some .local) (hx : scope.names.lookup x = some .local)
    (h : wpAny (model prog w) A (eval iter env) (SrcDT prog w A h₀ L m env ct elt x scope cl (fun s₂ => FinE h₀ L m s₂ Q)) E s)
    (hs : ∀ x, foldedSetIterable iter env x = pure x := by intro _; rfl) :
    wpAny (model prog w) A (eval (.ListComp elt [⟨.Name x px, iter, [ct], 0⟩] scope pos) env) Q E s := by
  rw [eval_ListComp]
  refine wpAny_comprehension_free (use := none) rfl hs hclos hkind hnames (wpAny_mono h (fun xv s₁ h₁ => ?_) fun _ _ e => e)
  obtain ⟨d, o, kvs, news, rfl, hh, F, N, hm, hd, lo, hsz, R⟩ := h₁
  have hD : s₁.heap.DictOf (PySem.intKind prog w) d kvs := Heap.dictOf_iff.mpr ⟨o, (N _ hm).1, hd⟩
  obtain ⟨ep, hat⟩ := hD.dictAt
  have hlt : d < s₁.heap.objs.size := hat.lt_size
  refine wpAny_pyIter_dict lo hat ?_
  have up : ∀ (ob : Obj) b o, s₁.heap.get? b = some o → (s₁.heap.push ob).get? b = some o := fun ob b o e => Heap.get?_push_of_some _ e
  have W : Walks prog w A s₁.heap.objs.size _ _ _ (fun i v => ∃ k u t, kvs[i]? = some (k, u) ∧ v = .int k t) _ :=
    walks_weaken (Walks.dictKeys (knd := PySem.intKind prog w) hh s₁.heap.objs.size d (Nat.ne_of_lt hlt) kvs ep) (fun i v hv => by
      obtain ⟨k, u, h1, h2⟩ := hv
      obtain ⟨t, rfl⟩ := Value.isInt_shape h2
      exact ⟨k, u, t, h1, rfl⟩)
  refine block_T W hsz (fun i h st => by obtain ⟨o, e, _⟩ := st.1; exact ⟨o, e⟩) (fun i h h' ob nw st e e' k N' hS => ⟨keyiter_keep st.1 e e', ?_⟩) hcell hkind hx ⟨⟨_, Heap.get?_push_size _ rfl, rfl, rfl⟩, hat.push _⟩ (fun b hb => ?_)
      (F.keeps (up _)) (N.grown (up _)) (Nat.ne_of_lt F.ns.lt) (next_is_new F) (fun p hp => Nat.ne_of_lt (Heap.lt_size (N p hp).1)) hm (R _ ⟨_, rfl⟩) ?_
  · obtain ⟨o1, es1, g1, g2, g3, g4, g5, g6⟩ := hat
    have e0 : o1 = o := Option.some.inj (g1.symm.trans (N _ hm).1)
    subst e0
    exact ⟨o1, es1, (N' _ hS).1, g2, g3, g4, g5, g6⟩
  · show b < (s₁.heap.push _).objs.size
    rw [Heap.size_push]
    rcases List.mem_cons.mp hb with rfl | hb
    · exact Nat.lt_succ_self _
    · rw [List.mem_singleton.mp hb]; exact Nat.lt_succ_of_lt hlt
  · intro D C h tk m' ys news' F' N' o1 hn hC₀ hD₀ hCL hDL hCD offC fin
    refine ⟨m', hn, fun h'' hs'' => fin D h'' tk (F'.change hs'' hCL hC₀) (fun p hp => ?_) o1⟩
    refine ⟨hs''.extBut _ _ ?_ (N' p hp).1, (N' p hp).2⟩
    rcases List.mem_cons.mp hp with rfl | hp
    · exact Ne.symm hCD
    · exact offC p hp
end
-- PART 53d: (a, b, c, d)[:3]; two tuples of an int, an int and bytes compared
section
variable {prog : Program} {w : World} {A : Around} {E : Value → Shared → Prop} {s : Shared} {h₀ : Heap} {L : Addr} {m : Str → Option Value} {news : List (Addr × Obj)}
theorem sliceApplied_3 {sl : Addr} {u : Tok} {Q : Int × Int × Nat → Shared → Prop} (hs : s.heap.IsSliceOf sl .none (.int 3 u) .none) (h : Q (0, 1, 3) s) :
    wpAny (model prog w) A (Builtin.Slice.sliceApplied (.ref sl) (pure ((4 : Nat) : Int))) Q E s := by
  obtain ⟨os, hos, hcs, hds⟩ := id hs
  unfold Builtin.Slice.sliceApplied Builtin.Slice.sliceFields
  refine wpAny_bind (wpAny_bind (wpAny_field hos hds (x := .none) rfl (wpAny_bind (wpAny_field hos hds (x := .int 3 u) rfl (wpAny_bind (wpAny_field hos hds (x := .none) rfl (wpAny_pure ?_)))))))
  refine wpAny_bind (slicePart_none ?_)
  show wpAny _ _ (if ((1 : Int) == 0) = true then _ else _) _ _ s
  rw [if_neg (by decide)]
  refine wpAny_bind (slicePart_none (wpAny_bind (slicePart_int (wpAny_bind (wpAny_pure ?_)))))
  exact wpAny_pure h
theorem getItem_3 {t sl : Addr} {a b c d : Value} {u : Tok} {Q : Value → Shared → Prop} (ht : IsTup s.heap t #[a, b, c, d]) (hs : s.heap.IsSliceOf sl .none (.int 3 u) .none)
    (h : Q (.ref s.heap.objs.size) { s with heap := s.heap.push { cls := .type "tuple", data := .seq #[a, b, c] } }) : wpAny (model prog w) A (getItem (.ref t) (.ref sl)) Q E s := by
  have hdrop : sizeOk (.seq #[a, b, c]) := by
    show (#[a, b, c] : Array Value).size ≤ sizeLine
    rw [sizeLine_eq]
    show 3 ≤ _
    decide
  obtain ⟨os, hos, hcs, hds⟩ := id hs
  have hTs : s.TypeIs (.ref sl) "slice" := ⟨os, hos, hcs⟩
  unfold getItem
  try with_reducible refine wpAny_holding ?_
  first | refine wpAny_bind (wpAny_pure ?_) | skip
  refine wpAny_bind (wpAny_sequenceKey ht.typeIs (by decide) ?_)
  refine wpAny_bind (wpAny_callSpecial?_slot (name := Str.ofString "__getitem__") ht.typeIs slot_tuple_getitem
    (wpAny_call_entry slot_tuple_getitem ht.typeIs entry_tuple_getitem ?_ (args_tuple_getitem _ _)))
  show wpAny _ _ (Builtin.Tuple.tupleItemsOf (.ref t) >>= _) _ _ s
  refine wpAny_bind (tupleItemsOf_ ht ?_)
  refine wpAny_bind (wpAny_typeOf hTs ?_)
  rw [if_pos (by decide)]
  refine wpAny_bind (sliceApplied_3 hs ?_)
  show wpAny _ _ (if false = true then _ else _) _ _ s
  rw [if_neg (by decide)]
  first
    | exact wpAny_bind (m := Builtin.Tuple.tupleExact _) (wpAny_newObj_type (wpAny_pure ⟨_, rfl, wpAny_pure h⟩) hdrop)
    | exact wpAny_bind (m := Builtin.Tuple.tupleExact _) (wpAny_newObj_type (wpAny_bind (wpAny_pure (wpAny_pure ⟨_, rfl, wpAny_pure h⟩))) hdrop)
    | exact wpAny_bind (wpAny_bind (m := Builtin.Tuple.tupleExact _) (wpAny_newObj_type (wpAny_pure (wpAny_pure ⟨_, rfl, wpAny_pure h⟩)) hdrop))
    | exact wpAny_bind (wpAny_bind (m := Builtin.Tuple.tupleExact _) (wpAny_newObj_type (wpAny_pure ⟨_, rfl, wpAny_pure h⟩) hdrop))
theorem slice_3 {value slice : Expr} {t : Addr} {a b c d : Value} {u : Tok} {Q : Value → Shared → Prop} (F : Fr h₀ L s.heap m) (N : News h₀ L s.heap news) (ht : (t, tupO [a, b, c, d]) ∈ news)
    (h : ∀ h' T, Fr h₀ L h' m → News h₀ L h' ((T, tupO [a, b, c]) :: news) → (∀ p ∈ news, p.1 < T) → Q (.ref T) { s with heap := h' })
    (hs : subscripted slice false (.ref t) (.ref s.heap.objs.size) = operate [.ref s.heap.objs.size, .ref t] (getItem (.ref t) (.ref s.heap.objs.size)) := by with_unfolding_all rfl)
    (hg : ∀ r, letTemporaryGo value (.ref t) r = pure () := by intro _; with_unfolding_all rfl) :
    wpAny (model prog w) A (subscriptTail value slice (.ref t) (.ref s.heap.objs.size)) Q E { s with heap := s.heap.push { cls := .type "slice", data := .fields #[.none, .int 3 u, .none] } } := by
  have ht0 : IsTup s.heap t #[a, b, c, d] := ⟨_, (N _ ht).1, rfl, _, rfl⟩
  have ht' : IsTup (s.heap.push { cls := .type "slice", data := .fields #[.none, .int 3 u, .none] }) t #[a, b, c, d] := ht0.keeps fun _ _ e => Heap.get?_push_of_some _ e
  refine subscriptTail_ops (s := { s with heap := s.heap.push { cls := .type "slice", data := .fields #[.none, .int 3 u, .none] } }) ht'.typeIs slot_tuple_getitem.lookup
    (getItem_3 ht' (Heap.IsSliceOf.new ..) ?_) hs hg
  have N1 := News.push (F.push { cls := .type "slice", data := .fields #[.none, .int 3 u, .none] }) (N.grown fun _ _ e => Heap.get?_push_of_some _ e) { cls := .type "tuple", data := .seq #[a, b, c] }
  exact h _ _ ((F.push _).push _) N1 fun p hp => (by rw [Heap.size_push]; exact Nat.lt_succ_of_lt (Heap.lt_size (N p hp).1))
open SeqAt
theorem eqat_intB {a b : Int} {t u : Tok} : EqAt A s (.int a t) (.int b u) (a == b) := EqAt.int_int (A := A) (s := s) a t b u
theorem eqat_bytesB {b c : Array UInt8} {t u : Tok} : EqAt A s (.bytes b t) (.bytes c u) (decide (b.toList = c.toList)) := fun prog w E Q hq => eqBool_bytes hq
end
section
variable {A : Around} {s : Shared}
open SeqAt
theorem ne_tup3 {prog : Program} {w : World} {E : Value → Shared → Prop} {T U : Addr} {a a' b b' : Int} {c c' : Array UInt8} {t1 t2 t3 u1 u2 u3 : Tok} {Q : Value → Shared → Prop} (hT : s.heap.IsTuple T #[.int a t1, .int b t2, .bytes c t3]) (hU : s.heap.IsTuple U #[.int a' u1, .int b' u2, .bytes c' u3]) (hu : A.units < cLine)
    (h : Q (.bool (!(decide (a = a') && (decide (b = b') && decide (c = c'))))) s) : wpAny (model prog w) A (compareOp .NotEq (.ref T) (.ref U)) Q E s := by
  refine RcNeAt.tuples (e := fun j => match j with | 0 => decide (a = a') | 1 => decide (b = b') | _ => decide (c = c')) hT hU hu (fun j h1 h2 => ?_) prog w E Q ?_
  · have hj : j < 3 := h1
    rcases j with _ | _ | _ | j
    · have q := eqat_intB (A := A.in1) (s := s) (a := a) (b := a') (t := t1) (u := u1)
      rwa [show (a == a') = decide (a = a') from rfl] at q
    · have q := eqat_intB (A := A.in1) (s := s) (a := b) (b := b') (t := t2) (u := u2)
      rwa [show (b == b') = decide (b = b') from rfl] at q
    · have q := eqat_bytesB (A := A.in1) (s := s) (b := c) (c := c') (t := t3) (u := u3)
      rwa [show decide (c.toList = c'.toList) = decide (c = c') from by rw [decide_eq_decide]; exact Array.toList_inj] at q
    · omega
  · have hb : ∀ x y z : Bool, ((x && (y && (z && true))) && true) = (x && (y && z)) := by decide
    rw [← hb] at h
    exact h
end
theorem rows_7 : True := by
  k_with "compareOp NotEq ref ref" => ((with_reducible show wpAny _ _ (compareOp _ (Value.ref _) (Value.ref _)) _ _ _); refine halt_ ?_)
  trivial
-- PART 53: _law_left
def LeftPost (w : World) (l R : Led) (kvs : List (Int × Value)) (cs : List (Int × Ct)) (r : Value) (l' : Led) : Prop :=
  ∃ (D : Addr) (oD : Obj) (kvs' : List (Int × Value)), r = .ref D ∧ l' = (D, oD) :: l ∧ AllLt D l ∧ oD.IsDictOf (PySem.intKind pw w) kvs' ∧ (D == sysModules) = false ∧ kvs'.length ≤ kvs.length ∧ Bk w R kvs' (cs.filter fun z => !z.2.emp)
theorem LeftPost.el {w : World} {l R : Led} {kvs : List (Int × Value)} {cs : List (Int × Ct)} (M : Value → Led → Prop) (h : ∀ (D : Addr) (oD : Obj) (kvs' : List (Int × Value)), AllLt D l → oD.IsDictOf (PySem.intKind pw w) kvs' → (D == sysModules) = false → kvs'.length ≤ kvs.length → Bk w R kvs' (cs.filter fun z => !z.2.emp) → M (.ref D) ((D, oD) :: l)) : ∀ r l', LeftPost w l R kvs cs r l' → M r l' := by
  rintro r l' ⟨D, oD, kvs', rfl, rfl, a, b, c, d, e⟩
  exact h D oD kvs' a b c d e
def KeptAre (w : World) (l R : Led) (kvs : List (Int × Value)) (cs : List (Int × Ct)) (i : Nat) (ys : List Value) (tl' : Led) : Prop :=
  (∀ p ∈ l, p ∈ tl') ∧ ∃ kvs' : List (Int × Value), kvs'.Sublist (kvs.take i) ∧ Bk w R kvs' ((cs.take i).filter fun z => !z.2.emp) ∧ ys.length = kvs'.length ∧
    ∀ (j : Nat) (y : Value), ys[j]? = some y → ∃ (T : Addr) (k : Int) (t : Tok) (x : Value), y = Value.ref T ∧ kvs'[j]? = some (k, x) ∧ (T, tupO [.int k t, x]) ∈ tl'
theorem keptAre_0 {w : World} {l R : Led} {kvs : List (Int × Value)} {cs : List (Int × Ct)} : KeptAre w l R kvs cs 0 [] l := ⟨fun _ h => h, [], List.Sublist.refl _, .nil, rfl, fun j y h => by simp at h⟩
section
variable {w : World} {l R : Led} {kvs : List (Int × Value)} {cs : List (Int × Ct)} {i : Nat} {ys : List Value} {tl' : Led} {k : Int} {x : Value} {c : Ct}
theorem keptAre_skip (h : KeptAre w l R kvs cs i ys tl') (hk : kvs[i]? = some (k, x)) (hc : cs[i]? = some (k, c)) (he : c.emp = true) : KeptAre w l R kvs cs (i + 1) ys tl' := by
  obtain ⟨h1, kvs', h2, h3, h4, h5⟩ := h
  refine ⟨h1, kvs', ?_, ?_, h4, h5⟩
  · rw [List.take_add_one, hk]; exact h2.trans (List.sublist_append_left _ _)
  · rw [List.take_add_one, hc]
    simpa [he] using h3
theorem keptAre_keep {T : Addr} {t : Tok} (h : KeptAre w l R kvs cs i ys tl') (hk : kvs[i]? = some (k, x)) (hc : cs[i]? = some (k, c)) (he : c.emp = false) (e : BkE w R x c) : KeptAre w l R kvs cs (i + 1) (ys ++ [.ref T]) ((T, tupO [.int k t, x]) :: tl') := by
  obtain ⟨h1, kvs', h2, h3, h4, h5⟩ := h
  refine ⟨fun p hp => .tail _ (h1 p hp), kvs' ++ [(k, x)], ?_, ?_, by rw [List.length_append, List.length_append, h4]; rfl, fun j y hj => ?_⟩
  · rw [List.take_add_one, hk]; exact List.Sublist.append h2 (List.Sublist.refl _)
  · rw [List.take_add_one, hc]
    have q := h3.app (k := k) e
    simpa [he] using q
  · rcases Nat.lt_trichotomy j ys.length with hlt | heq | hgt
    · rw [List.getElem?_append_left hlt] at hj
      obtain ⟨T', k', t', x', e1, e2, e3⟩ := h5 j y hj
      exact ⟨T', k', t', x', e1, by rw [List.getElem?_append_left (by omega)]; exact e2, .tail _ e3⟩
    · subst heq
      rw [List.getElem?_append_right (Nat.le_refl _)] at hj
      simp at hj
      exact ⟨T, k, t, x, hj.symm, by rw [List.getElem?_append_right (by omega), h4, Nat.sub_self]; rfl, .head _⟩
    · rw [List.getElem?_eq_none (by simp; omega)] at hj
      cases hj
end
theorem left_sub {x y z a b c : Addr × Obj} (pre : Led) {tl : Led} : ∀ p ∈ x :: y :: z :: (pre ++ a :: tl), p ∈ a :: b :: c :: x :: y :: z :: (pre ++ tl) := fun p hp => by
  rcases List.mem_cons.mp (comp_sub pre p hp) with h | h
  · exact h ▸ .head _
  · exact .tail _ (.tail _ (.tail _ h))
theorem left_sub2 {a b c p : Addr × Obj} {l tl : Led} (h1 : ∀ p ∈ l, p ∈ tl) (h : p ∈ a :: l) : p ∈ a :: b :: c :: tl := by
  rcases List.mem_cons.mp h with h | h
  · exact h ▸ .head _
  · exact .tail _ (.tail _ (.tail _ (h1 p h)))
set_option maxHeartbeats 8000000 in
theorem left_con {w : World} (l R : Led) (hRl : ∀ p ∈ R, p ∈ l) (bk : Addr) (bo : Obj) (kvs : List (Int × Value)) (cs : List (Int × Ct)) (hbm : (bk, bo) ∈ l) (hbo : bo.IsDictOf (PySem.intKind pw w) kvs) (hbn : (bk == sysModules) = false) (h64 : kvs.length < 64) (hbb : Bk w R kvs cs) :
    Con w none 462 [.ref bk] 20 200 l (LeftPost w l R kvs cs) := by
  intro mean mg mb dp un gd cn csc a ccd cl outer A₀ base h₀ L m s Q E B F X N T hk hd hu ret
  k_dflt ktr_enter
  k_steps
  rename_i oc g1 L1 hh1 tkk1 FG1 FF1 BB1 XX1 TT1 ll1 q1 N0
  unfold Halt
  k_dflt (refine ListComp_DT (F₀ := by k_asm) (by with_unfolding_all rfl) (by decide) (by rfl) (by decide) (by rfl) ?_)
  k_steps
  refine ⟨bk, bo, kvs, _, rfl, rfl, by k_asm, by k_asm, by k_mem, hbo, hbn, (by rw [sizeLine_eq]; omega), fun s₂ e2 => ?_⟩
  obtain ⟨hh2, e2⟩ := e2
  subst e2
  refine compRestT_inv (n := kvs.length) (J := fun i ys nw => ∃ tl', nw = (L1 + 1, oc) :: tl' ∧ KeptAre w l R kvs cs i ys tl') ?_ ?_ _ 0 [] _ (Nat.zero_add _) ⟨l, rfl, keptAre_0⟩
  · intro i ys nw v I oI C oC D m₂ h2 tk2 E2 hi hJ9 hK9 hC hx F2 N2 off2 ne2
    (try k_fold)
    obtain ⟨tl', rfl, hJ⟩ := hJ9
    obtain ⟨k, x, t5, hku, rfl⟩ := hK9
    have hvk := valueAt_of_get (hbo.choose_spec.choose_spec.2.2.2.2) hku
    obtain ⟨c1, hc1, U, t1, t2, t3, d, oD, tD, rfl, mU, md, hoD, hdn⟩ := hbb.get hku
    have hbm2 : (bk, bo) ∈ tl' := hJ.1 _ hbm
    have mU2 := hJ.1 _ (hRl _ mU)
    clear N0
    k_steps
    k_dflt (refine slice_3 (a := .int c1.nonce t1) (b := .int c1.bal t2) (c := .bytes c1.code t3) (d := .ref d) (by k_asm) (by k_asm) (by k_mem) ?_)
    intro h3 T3 F3 N3 l3
    dsimp only at F3 N3 ⊢
    k_steps
    unfold Halt
    k_dflt (refine ne_tup3 (a' := 0) (b' := 0) (c' := #[]) (tup_at (by k_asm) (by k_mem)) (tup_at (by k_asm) (by k_mem)) (by walk_at "UNC") ?_)
    k_steps
    · exact LCg.CompEnd.intro (by k_asm) (by k_asm) ((L1 + 1, oc) :: tl') (fun p hp => .tail _ (.tail _ hp)) off2 (.tail _ hbm2) ⟨tl', rfl, keptAre_skip hJ hku hc1 (by unfold Ct.emp; assumption)⟩
    · exact LCg.CompEnd.intro (by k_asm) (by k_asm) ([(L1 + 1, oc)] ++ (_, _) :: tl') (left_sub _) (comp_off [(L1 + 1, oc)] off2 (by assumption) (by assumption) (by assumption)) (.tail _ (.tail _ hbm2)) ⟨_, rfl, keptAre_keep hJ hku hc1 (by unfold Ct.emp; assumption) ⟨U, t1, t2, t3, d, oD, tD, rfl, mU, md, hoD, hdn⟩⟩
  · rintro ys nw ⟨tl', rfl, hJ1, kvs', hsub, hbk, hlen, hys⟩
    unfold LCg.FinE
    intro D h3 tk3 F3 N3 off3
    dsimp only at F3 N3 ⊢
    rw [List.take_length] at hsub
    rw [hbb.len, List.take_length] at hbk
    k_steps
    unfold Halt
    k_dflt (refine dict_pairs (vs := ys) (kvs := kvs') rfl (by k_asm) (by k_asm) (Top.nolimit (by k_asm)) (by k_mem) hlen (List.Nodup.sublist (hsub.map _) (kvs_nodup hbo)) (by rw [sizeLine_eq]; have := hsub.length_le; omega) ?_ ?_)
    · intro j v hj
      obtain ⟨T, k, t, x, e1, e2, e3⟩ := hys j v hj
      exact ⟨T, k, t, x, e1, e2, .tail _ (.tail _ e3)⟩
    intro D2 h4 tk4 o2 F4 N4 l4 hn4 hd4
    k_lt l4
    k_steps
    exact ret _ _ _ ((D2, o2) :: l) (by k_asm) (News.sub (by k_asm) (fun p hp => left_sub2 hJ1 hp)) ⟨D2, o2, kvs', rfl, rfl, allLt_mem.mpr fun p hp => allLt_mem.mp (by assumption) p (hJ1 p hp), hd4, hn4, hsub.length_le, hbk⟩
theorem rows_8 : True := by
  k_with "compareOp NotIn ref ref" => ((with_reducible show wpAny _ _ (compareOp _ (Value.ref _) (Value.ref _)) _ _ _); refine halt_ ?_)
  k_with "setItem ref ref" => ((with_reducible show wpAny _ _ (setItem (Value.ref _) (Value.ref _) _) _ _ _); refine halt_ ?_)
  k_with "call builtin:dict.get" => (k_here; (with_reducible show wpAny _ _ (call (Value.builtin "dict.get") [Value.ref _, Value.int _ _, Value.int _ _]) _ _ _); k_dflt (refine kdg_get2 (knd := PySem.intKind _ _) (by k_asm) (by k_mem) (by k_asm) (by assumption) (intKind_is _ _ _ _) _ (by assumption) ?_); (try dsimp only [Option.getD]))
  k_with "exec For Name Call cons nil" => refine halt_ ?_
  trivial
-- PART 54: set_slot, the first time of a state
theorem same_int (a b : Int) : PySem.Spec.same (PyData.int a) (PyData.int b) = decide (a = b) := by
  unfold PySem.Spec.same; rfl
structure ApS (V : StV) (x : Acc) (tl : Led) : Prop where
  sa : @Ne Nat x.sd x.a
  s0 : @Ne Nat x.sd V.st
  s1 : @Ne Nat x.sd V.ds
  s2 : @Ne Nat x.sd V.da
  s4 : @Ne Nat x.sd V.dt
  s5 : @Ne Nat x.sd V.dd
  ts : ∀ p ∈ tl, p.1 ≠ x.sd
theorem aps_of {P : Params} {V : StV} {A B : List Acc} {x : Acc} {rest : Led} (hV : V.accs = A ++ x :: B) (h : (keys (stL P V rest)).Nodup) : ApS V x (tlL P (A ++ B) V.rows rest) := by
  have z := ap_of h
  rw [hV] at z
  have ms : (x.sd, x.so) ∈ tlL P (A ++ x :: B) V.rows rest := tl_pull.mpr (by simp)
  rw [keys_st, hV, List.nodup_append] at h
  obtain ⟨-, h, -⟩ := h
  rw [List.flatMap_append, List.flatMap_cons] at h
  have pm : (A.flatMap (fun x => [x.a, x.d, x.sd]) ++ ([x.a, x.d, x.sd] ++ B.flatMap (fun x => [x.a, x.d, x.sd])) ++ (V.rows.flatMap (fun r => [r.a, r.d]) ++ keys rest)).Perm ([x.a, x.d, x.sd] ++ keys (tlL P (A ++ B) V.rows rest)) := by
    unfold tlL
    rw [keys_append, keys_append, keys_accs, keys_rows, List.flatMap_append]
    simp only [List.append_assoc]
    exact List.perm_append_comm_assoc ..
  rw [pm.nodup_iff, List.nodup_append] at h
  obtain ⟨h1, -, h2⟩ := h
  simp only [List.nodup_cons, List.mem_cons, List.not_mem_nil, or_false, not_or] at h1
  refine ⟨fun e => h1.1.2 e.symm, z.t0 _ ms, z.t1 _ ms, z.t2 _ ms, z.t4 _ ms, z.t5 _ ms, fun p hp e => ?_⟩
  exact h2 x.sd (by simp) p.1 (List.mem_map_of_mem hp) e.symm
section
variable {w : World} {V V1 : StV} {rest l' : Led} {k : Int} {r : Value} {A B : List Acc} {x y : Acc}
theorem Wr2.aps (W : Wr2 w V rest k r l' V1 A B x) : ApS V x (tlL w.params (A ++ B) V1.rows rest) := by
  have b := aps_of W.sp W.wf.ap
  obtain ⟨as, rs, tc, oa, ot, nj, rfl, -⟩ := W.ex
  exact ⟨b.sa, b.s0, b.s1, b.s2, b.s4, b.s5, b.ts⟩
theorem Wr2.same (W : Wr2 w V rest k r l' V1 A B x) (h : accAt V.accs k = some y) : x = y := by
  obtain ⟨as, rs, tc, oa, ot, nj, -, -, -, q, -⟩ := W.ex
  rcases q with ⟨q, -⟩ | ⟨q, -⟩ <;> rw [h] at q
  · cases q; rfl
  · cases q
end
set_option maxHeartbeats 8000000 in
theorem set_slot_con {w : World} {hv0 : Option Value} (V : StV) (rest : Led) (d : Addr) (od : Obj) (H : WF w V ((d, od) :: rest)) (hvo : V.vo = .ref d) (hod : od.IsDictOf (PySem.intKind pw w) []) (hdn : (d == sysModules) = false) (k : Int) (t u v : Tok) (x : Acc) (hx : accAt V.accs k = some x) (hsl : x.sl = false)
    (ha : V.accs.length ≤ 900) (hb : V.touched.length ≤ 900) (hc : V.rows.length ≤ 9000) :
    Con w hv0 345 [.ref V.st, .int k t, .int 5 u, .int 9 v] 30 300 (stL w.params V ((d, od) :: rest)) (UpPost w V rest k (fun c => { c with sl := true }) none) := by
  intro mean mg mb dp un gd cn cs a ccd cl outer A₀ base h₀ L m s Q E B F X N0 T hk hd hu ret
  obtain ⟨H0, hne⟩ := H.less
  have hoa := H0.oa
  have hna := H0.na
  have hsz := H0.sz
  obtain ⟨c01, c02, c03, c04, c05, c12, c13, c14, c15, c23, c24, c25, c34, c35, c45, z0, z1, z2, z3, z4, z5⟩ := ap_of H0.ap
  obtain ⟨tso, hso⟩ := H0.so x (accAt_mem hx).1
  rw [hsl] at hso
  have hns := H0.ns x (accAt_mem hx).1
  have hv := valueAt_acc V.accs k
  rw [hx] at hv
  simp only [Option.map_some] at hv
  have hv2 : (valueAt (accKvs V.accs) k).isSome = true := by rw [hv]; rfl
  have hv3 : valueAt (slKvs false tso) 5 = none := rfl
  obtain ⟨m1, m2, m3⟩ := acc_in (P := w.params) (rows := V.rows) (rest := rest) (accAt_mem hx).1
  have hl : stL w.params V rest = (V.st, instObj 439 V.ds) :: (V.ds, stO w.params V) :: (V.da, V.oa) :: (V.dj, rowsO V.rows V.nj) :: (V.dt, V.ot) :: (V.dd, V.od) :: tlL w.params V.accs V.rows rest := rfl
  have N := News.sub N0 (l' := (d, od) :: stL w.params V rest) (fun p hp => st_more.mpr hp)
  clear N0
  rw [hl] at N
  have hvo' : stO w.params V = W.dictOf [ent w.params (Str.ofString "setting") V.k0 V.setv, ent w.params (Str.ofString "accounts") V.k1 (.ref V.da), ent w.params (Str.ofString "journal") V.k2 (.ref V.dj), ent w.params (Str.ofString "touched") V.k3 (.ref V.dt), ent w.params (Str.ofString "destroyed") V.k4 (.ref V.dd), ent w.params (Str.ofString "warm_ones") V.k5 V.vw, ent w.params (Str.ofString "warm_slots") V.k6 V.vx, ent w.params (Str.ofString "originals") V.k7 (.ref d), ent w.params (Str.ofString "refund") V.k8 (.int V.rf V.trf), ent w.params (Str.ofString "logs") V.k9 V.vl] 10 := by rw [← hvo]
  rw [hvo'] at N
  generalize hT : tlL w.params V.accs V.rows rest = tl at N z0 z1 z2 z3 z4 z5 m1 m2 m3
  k_dflt ktr_enter
  k_steps
  unfold Halt
  k_dflt (refine notin_tupTab (knd := PySem.intKind _ _) (enc := PyData.int) (D := []) (ks := [k, 5]) same_int (by walk_at "UNC") (by k_asm) (TupTab.ofEmpty (by k_mem) hdn hod) (by k_mem) (TupKeyObj.made (vs := [.int k t, .int 5 u]) (ItemsAre.cons (intKind_is _ _ _ _) (ItemsAre.cons (intKind_is _ _ _ _) ItemsAre.nil))) ?_)
  dsimp only [PySem.Spec.lookup, List.find?, Option.map, Option.isSome, Bool.not_false]
  k_steps
  unfold Halt
  k_dflt (refine setItem_tupTab (knd := PySem.intKind _ _) (enc := PyData.int) (D := []) (ks := [k, 5]) (dv := .int 0) same_int (by walk_at "UNC") (PyProof.V.Flat.int 0 _) (by k_asm) (by k_asm) (TupTab.ofEmpty (by k_mem) hdn hod) (by k_mem) (TupKeyObj.made (vs := [.int k t, .int 5 u]) (ItemsAre.cons (intKind_is _ _ _ _) (ItemsAre.cons (intKind_is _ _ _ _) ItemsAre.nil))) ?_ (by decide))
  intro h4 nw4 F4 N4 T4 m4 s4
  have N5 := News.sub N4 (l' := stL w.params V rest) (fun p hp => s4 p (.tail _ (.tail _ (.tail _ (by rw [hl, hvo', hT] at hp; exact hp)))) (hne p hp))
  clear N4 T4 m4 s4
  k_steps
  unfold Halt
  k_dflt (refine Con.useK (written_con2 V rest H0 k _ ha hb hc) wr2_el (by k_asm) (by k_asm) (by k_asm) (by k_asm) (fun p hp => hp) (by k_asm) (by first | exact rfl | assumption) (by walk_at "DEP") (by walk_at "UNI") ?_)
  intro V1 A1 B1 xa l' W h' tk' F' N'
  have hx1 : xa = x := W.same hx
  subst hx1
  have hap := W.apx
  have haps := W.aps
  rw [W.led] at N'
  clear N5 c01 c02 c03 c04 c05 c12 c13 c14 c15 c23 c24 c25 c34 c35 c45 z0 z1 z2 z3 z4 z5 m1 m2 m3 hT hvo'
  generalize hT : tlL w.params (A1 ++ B1) V1.rows rest = tl at N' hap haps
  obtain ⟨y1, y2, y3, y4, y5, y6, y7⟩ := haps
  have hszs : (slKvs false tso).length ≤ sizeLine := Nat.zero_le _
  obtain ⟨⟨c01, c02, c03, c04, c05, c12, c13, c14, c15, c23, c24, c25, c34, c35, c45, z0, z1, z2, z3, z4, z5⟩, ⟨x1, x2, x3, x4, x5, x6, x7, x8, x9, x10, x11⟩⟩ := hap
  have hszr := W.wf.sr
  k_steps
  obtain ⟨l9, N9, P9⟩ := st_upd (f := fun c => { c with sl := true }) (o := none) (x' := Acc.mk xa.k xa.a xa.d xa.sd xa.nonce xa.bal xa.code true xa.t1 xa.t2 xa.t3 xa.t4 xa.u1 xa.u2 xa.u3 _) H0 W ha hc hT (by k_asm) rfl rfl rfl rfl ⟨v, by assumption⟩ rfl (fun o' ho => nomatch ho) (by assumption) (by assumption) (by assumption) (by assumption) (by assumption) (by assumption) (by assumption) (by assumption) (by assumption) (by assumption) (by assumption)
  exact ret _ _ _ l9 (by k_asm) N9 P9
-- PART 55: State(..)
def NewPost (w : World) (l : Led) (r : Value) (l' : Led) : Prop :=
  ∃ (V : StV) (d : Addr) (od : Obj), r = .ref V.st ∧ l' = stL w.params V ((d, od) :: l) ∧ WF w V ((d, od) :: l) ∧ V.accs = [] ∧ V.touched = [] ∧ V.rows = [] ∧ V.vo = .ref d ∧ od.IsDictOf (PySem.intKind pw w) [] ∧ (d == sysModules) = false
theorem NewPost.el {w : World} {l : Led} (M : Value → Led → Prop) (h : ∀ (V : StV) (d : Addr) (od : Obj), WF w V ((d, od) :: l) → V.accs = [] → V.touched = [] → V.rows = [] → V.vo = .ref d → od.IsDictOf (PySem.intKind pw w) [] → (d == sysModules) = false → M (.ref V.st) (stL w.params V ((d, od) :: l))) : ∀ r l', NewPost w l r l' → M r l' := by
  rintro r l' ⟨V, d, od, rfl, rfl, a, b, c, e, f, g, i⟩
  exact h V d od a b c e f g i
theorem new_ap {V : StV} {P : Params} {d : Addr} {od : Obj} {l : Led} (h1 : V.accs = []) (h2 : V.rows = []) (a1 : @LT.lt Nat _ V.ds V.st) (a2 : @LT.lt Nat _ V.st V.da) (a3 : @LT.lt Nat _ V.da V.dj) (a4 : @LT.lt Nat _ V.dj V.dt) (a5 : @LT.lt Nat _ V.dt V.dd) (a6 : @LT.lt Nat _ V.dd d) (hl : (keys l).Nodup) (b : AllLt V.ds l) : (keys (stL P V ((d, od) :: l))).Nodup := by
  rw [keys_st, h1, h2]
  have hb : ∀ a ∈ keys l, @LT.lt Nat _ a V.ds := fun a ha => by
    obtain ⟨p, hp, rfl⟩ := List.mem_map.mp ha
    exact allLt_mem.mp b p hp
  have q := ndp (List.Perm.swap V.st V.ds _) (inc_nd (x := V.ds) (l := [V.st, V.da, V.dj, V.dt, V.dd, d]) ⟨a1, a2, a3, a4, a5, a6, trivial⟩)
  show ([V.st, V.ds, V.da, V.dj, V.dt, V.dd, d] ++ keys l).Nodup
  exact List.nodup_append.mpr ⟨q.1, hl, fun a ha c hc => Nat.ne_of_gt (Nat.lt_of_lt_of_le (hb c hc) (q.2 a ha))⟩
theorem new_end {w : World} {l : Led} {h₀ h : Heap} {L xl x1 x2 st ds da dj dt dd d : Addr} {o1 o2 oda odt odd od : Obj} {n : Nat} {sv : Value} {rt k0 k1 k2 k3 k4 k5 k6 k7 k8 k9 : Tok} (hl : (keys l).Nodup)
    (N : News h₀ L h ((xl, W.listOf #[] n) :: (d, od) :: (x1, o1) :: (x2, o2) :: (dd, odd) :: (dt, odt) :: (dj, W.listOf #[] 0) :: (da, oda) :: (st, instObj 439 ds) ::
      (ds, W.dictOf [ent w.params (Str.ofString "setting") k0 sv, ent w.params (Str.ofString "accounts") k1 (.ref da), ent w.params (Str.ofString "journal") k2 (.ref dj), ent w.params (Str.ofString "touched") k3 (.ref dt), ent w.params (Str.ofString "destroyed") k4 (.ref dd), ent w.params (Str.ofString "warm_ones") k5 (.ref x2), ent w.params (Str.ofString "warm_slots") k6 (.ref x1), ent w.params (Str.ofString "originals") k7 (.ref d), ent w.params (Str.ofString "refund") k8 (.int 0 rt), ent w.params (Str.ofString "logs") k9 (.ref xl)] 10) :: l))
    (h1 : oda.IsDictOf (PySem.intKind pw w) []) (h2 : odt.IsDictOf (PySem.intKind pw w) []) (h3 : odd.IsDictOf (PySem.intKind pw w) []) (h4 : od.IsDictOf (PySem.intKind pw w) []) (n1 : (da == sysModules) = false) (n2 : (dt == sysModules) = false) (n3 : (dd == sysModules) = false) (n4 : (d == sysModules) = false)
    (a1 : @LT.lt Nat _ ds st) (a2 : @LT.lt Nat _ st da) (a3 : @LT.lt Nat _ da dj) (a4 : @LT.lt Nat _ dj dt) (a5 : @LT.lt Nat _ dt dd) (a6 : @LT.lt Nat _ dd d) (b : AllLt ds l) : ∃ l', News h₀ L h l' ∧ NewPost w l (.ref st) l' := by
  refine ⟨stL w.params (StV.mk st ds da dj dt dd sv (.ref x2) (.ref x1) (.ref d) (.ref xl) 0 rt k0 k1 k2 k3 k4 k5 k6 k7 k8 k9 0 oda odt odd [] [] []) ((d, od) :: l), News.sub N fun p hp => ?_, _, d, od, rfl, rfl, ⟨h1, h2, h3, n1, n2, n3, fun _ h => (nomatch h), fun _ h => (nomatch h), Nat.zero_le _, Nat.zero_le _, Nat.zero_le _, new_ap rfl rfl a1 a2 a3 a4 a5 a6 hl b⟩, rfl, rfl, rfl, rfl, h4, n4⟩
  have hp' : p ∈ (st, instObj 439 ds) :: (ds, _) :: (da, oda) :: (dj, W.listOf #[] 0) :: (dt, odt) :: (dd, odd) :: (d, od) :: l := hp
  clear hp
  simp only [List.mem_cons] at hp'
  rcases hp' with rfl | rfl | rfl | rfl | rfl | rfl | rfl | h
  iterate 7 · repeat first | exact .head _ | apply List.Mem.tail
  repeat first | exact h | apply List.Mem.tail
set_option maxHeartbeats 8000000 in
theorem new_con {w : World} {hv0 : Option Value} (l : Led) (hl : (keys l).Nodup) (sa : Addr) : Con w hv0 439 [.ref sa] 10 60 l (NewPost w l) := by
  intro mean mg mb dp un gd cn cs a ccd cl outer A₀ base h₀ L m s Q E B F X N T hk hd hu ret
  k_steps
  obtain ⟨l9, N9, P9⟩ := new_end hl (by k_asm) (by assumption) (by assumption) (by assumption) (by assumption) (by assumption) (by assumption) (by assumption) (by assumption) (by assumption) (by assumption) (by assumption) (by assumption) (by assumption) (by assumption) (by assumption)
  exact ret _ _ _ l9 (by k_asm) N9 P9
theorem rows_9 : True := by
  k_with "call ref" => ((with_reducible show wpAny _ _ (call (Value.ref 439) _) _ _ _); refine halt_ ?_)
  trivial
-- PART 56: _law_state
theorem WF.perm {w : World} {V : StV} {r r' : Led} (H : WF w V r) (h : r.Perm r') : WF w V r' :=
  ⟨H.oa, H.ot, H.od, H.na, H.nt, H.nd, H.so, H.ns, H.sa, H.st, H.sr, by
    have q := H.ap
    rw [keys_st] at q ⊢
    have pm : (keys r).Perm (keys r') := h.map _
    exact (((pm.append_left _).append_left _).append_left _).nodup_iff.mp q⟩
theorem st_perm {P : Params} {V : StV} {r r' : Led} (h : r.Perm r') {p : Addr × Obj} (hp : p ∈ stL P V r) : p ∈ stL P V r' := by
  rw [st_app, List.mem_append] at hp ⊢
  exact hp.imp id h.mem_iff.mp
theorem st_rest {P : Params} {V : StV} {r : Led} {p : Addr × Obj} (hp : p ∈ r) : p ∈ stL P V r := by
  rw [st_app]
  exact List.mem_append_right _ hp
theorem updC_new {cs : List (Int × Ct)} {k : Int} {f : Ct → Ct} (h : ctAt cs k = none) : updC cs k f = cs ++ [(k, f noCt)] := by
  unfold updC; rw [h]; rfl
theorem updC_last {cs : List (Int × Ct)} {k : Int} {c : Ct} {f : Ct → Ct} (h : ctAt cs k = none) : updC (cs ++ [(k, c)]) k f = cs ++ [(k, f c)] := by
  have hn : ∀ z ∈ cs, z.1 ≠ k := fun z hz e => by
    unfold ctAt at h
    have := List.find?_eq_none.mp (Option.map_eq_none_iff.mp h) z hz
    simp [e] at this
  have h1 : (ctAt (cs ++ [(k, c)]) k).isSome = true := by
    unfold ctAt
    rw [Option.isSome_map, List.find?_isSome]
    exact ⟨(k, c), by simp, by simp⟩
  unfold updC
  rw [h1, if_pos rfl, List.map_append]
  congr 1
  · have : cs.map (fun x => if x.1 = k then (k, f x.2) else x) = cs.map id := List.map_congr_left fun z hz => by simp [hn z hz]
    rw [this, List.map_id]
  · simp
theorem ctAt_last {cs : List (Int × Ct)} {k : Int} {c : Ct} (h : ctAt cs k = none) : ctAt (cs ++ [(k, c)]) k = some c := by
  unfold ctAt at h ⊢
  rw [List.find?_append, Option.map_eq_none_iff.mp h]
  simp
theorem sl_len {b : Bool} {t : Tok} : (slKvs b t).length < 64 := by
  cases b
  · exact Nat.succ_pos _
  · exact Nat.lt_of_sub_pos (Nat.succ_pos _)
theorem LocOff.refl {st : List Str} {m : Str → Option Value} : LocOff st m m := fun _ _ => rfl
theorem LocOff.put {st : List Str} {m₀ m : Str → Option Value} {x : Str} {v : Option Value} (hx : st.contains x = true) (h : LocOff st m₀ m) : LocOff st m₀ (fun y => if y = x then v else m y) := fun y hy => by
  have h1 : y ≠ x := by rintro rfl; rw [hx] at hy; cases hy
  simp only [if_neg h1]
  exact h y hy
theorem LocOff.over {st st2 : List Str} {m₀ m u : Str → Option Value} (hx : (st2.all fun y => st.contains y) = true) (h : LocOff st m₀ m) : LocOff st m₀ (fun y => if st2.contains y = true then u y else m y) := fun y hy => by
  have h1 : st2.contains y = false := by
    cases e : st2.contains y with
    | false => rfl
    | true =>
      have := List.all_eq_true.mp hx y (List.contains_iff_mem.mp e)
      rw [hy] at this; cases this
  simp only [h1, Bool.false_eq_true, if_false]
  exact h y hy
def StatePost (w : World) (l : Led) (cs : List (Int × Ct)) (r : Value) (l' : Led) : Prop :=
  ∃ V : StV, r = .ref V.st ∧ l' = stL w.params V l ∧ WF w V l ∧ cont V.accs = cs.filter (fun z => !z.2.emp) ∧ V.touched = [] ∧ V.rows = []
theorem StatePost.el {w : World} {l : Led} {cs : List (Int × Ct)} (M : Value → Led → Prop) (h : ∀ V : StV, WF w V l → cont V.accs = cs.filter (fun z => !z.2.emp) → V.touched = [] → V.rows = [] → M (.ref V.st) (stL w.params V l)) : ∀ r l', StatePost w l cs r l' → M r l' := by
  rintro r l' ⟨V, rfl, rfl, a, b, c, d⟩
  exact h V a b c d
def stRest (D : Addr) (oD : Obj) (d : Addr) (od : Obj) (l : Led) (b : Bool) : Led := (D, oD) :: (if b then (d, od) :: l else l)
/-- between the turns -/
def StJ (w : World) (st : Addr) (D : Addr) (oD : Obj) (d : Addr) (od : Obj) (l : Led) (cs : List (Int × Ct)) (j : Nat) (nx : Led) : Prop :=
  ∃ (V : StV) (b : Bool), V.st = st ∧ V.vo = .ref d ∧ nx = stL w.params V (stRest D oD d od l b) ∧ WF w V (stRest D oD d od l b) ∧ cont V.accs = cs.take j ∧ V.touched = (cs.take j).map (·.1) ∧ V.rows.length ≤ 20 * j ∧ (j < cs.length → b = true)
theorem st_drop {P : Params} {V : StV} {D d : Addr} {oD od : Obj} {l : Led} {b : Bool} {p : Addr × Obj} (hp : p ∈ stL P V l) : p ∈ stL P V (stRest D oD d od l b) := by
  unfold stRest
  refine st_more.mpr (.tail _ ?_)
  cases b with
  | true => exact st_more.mpr (.tail _ hp)
  | false => exact hp
theorem keep_all {cs : List (Int × Ct)} : cs.filter (keepC (cs.map (·.1))) = cs.filter fun z => !z.2.emp := by
  refine List.filter_congr fun z hz => ?_
  unfold keepC
  have : z.1 ∈ cs.map (·.1) := List.mem_map_of_mem hz
  simp [this]
theorem take_none {cs : List (Int × Ct)} {j : Nat} {k : Int} {c : Ct} (hn : (cs.map (·.1)).Nodup) (h : cs[j]? = some (k, c)) : ctAt (cs.take j) k = none := by
  unfold ctAt
  rw [Option.map_eq_none_iff, List.find?_eq_none]
  intro z hz e
  obtain ⟨i, hi⟩ := List.getElem?_of_mem hz
  rw [List.getElem?_take] at hi
  split at hi
  · rename_i hlt
    have e1 : (cs.map (·.1))[i]? = some k := by rw [List.getElem?_map, hi]; simpa using e
    have e2 : (cs.map (·.1))[j]? = some k := by rw [List.getElem?_map, h]; rfl
    have := (List.getElem?_inj (List.getElem?_eq_some_iff.mp e1).1 hn).mp (e1.trans e2.symm)
    omega
  · cases hi
theorem take_notin {cs : List (Int × Ct)} {j : Nat} {k : Int} {c : Ct} (hn : (cs.map (·.1)).Nodup) (h : cs[j]? = some (k, c)) : k ∉ (cs.take j).map (·.1) := fun hm => by
  have q := take_none hn h
  unfold ctAt at q
  obtain ⟨z, hz, e⟩ := List.mem_map.mp hm
  have := List.find?_eq_none.mp (Option.map_eq_none_iff.mp q) z hz
  simp [e] at this
theorem UpPost.ex {w : World} {V : StV} {rest l' : Led} {k : Int} {f : Ct → Ct} {o : Option Op} {r : Value} (h : UpPost w V rest k f o r l') :
    ∃ V' : StV, r = .none ∧ l' = stL w.params V' rest ∧ WF w V' rest ∧ V'.st = V.st ∧ V'.ds = V.ds ∧ stO w.params V' = stO w.params V ∧ V'.vo = V.vo ∧ cont V'.accs = updC (cont V.accs) k f ∧ V'.touched = tchd V.touched k ∧ V'.rows.length ≤ V.rows.length + 3 := by
  obtain ⟨accs, rs, oa, ot, nj, h1, h2, h3, h4, h5, -⟩ := h
  exact ⟨_, h1, h2, h3, rfl, rfl, rfl, rfl, h4, rfl, by show (V.rows ++ rs).length ≤ _; rw [List.length_append]; omega⟩
/-- a contract of the kind UpPost, its post told in pieces -/
theorem Con.useU {w : World} {hd : Option Value} {fa : Addr} {args : List Value} {D U : Nat} {l : Led} {V : StV} {rest : Led} {k : Int} {f : Ct → Ct} {o : Option Op} (C : Con w hd fa args D U l (UpPost w V rest k f o))
    {mean : ExcName → Option Value} {mg mb : Str → Option Value} {dp un : Nat} {gd : Option (List Code)} {cn : Str} {cs : Scope} {a : Addr} {ccd : Value} {cl : List (Str × Addr)} {outer : List Env} {A₀ : Around} {base h₀ : Heap} {L : Addr}
    {m : Str → Option Value} {s : Shared} {Q E : Value → Shared → Prop} {news : Led}
    (B : Below A₀ base outer h₀) (F : Fr h₀ L s.heap m) (X : (Mine.hd.heap_39 w.params).In h₀) (N : News h₀ L s.heap news) (hs : ∀ p ∈ l, p ∈ news) (T : Tp mean mg mb h₀) (hk : cs.kind = .function) (hdp : dp + D < 600) (hun : un + U < 9000)
    (ret : ∀ (V' : StV) h' tk', WF w V' rest → V'.st = V.st → V'.ds = V.ds → stO w.params V' = stO w.params V → V'.vo = V.vo → cont V'.accs = updC (cont V.accs) k f → V'.touched = tchd V.touched k → V'.rows.length ≤ V.rows.length + 3 → Fr h₀ L h' m → News h₀ L h' (stL w.params V' rest) → Q .none { s with heap := h', toks := tk' }) :
    wpAny (model pw w) (atp hd dp un gd cn cs L a ccd cl outer) (call (.ref fa) args) Q E s :=
  Con.use C B F X N hs T hk hdp hun fun r h' tk' l' F' N' P => by
    obtain ⟨V', rfl, rfl, a1, a2, a3, a4, a5, a6, a7, a8⟩ := P.ex
    exact ret V' h' tk' a1 a2 a3 a4 a5 a6 a7 a8 F' N'
theorem tchd_new {ks : List Int} {k : Int} (h : k ∉ ks) : tchd ks k = ks ++ [k] := by unfold tchd; rw [if_neg h]
theorem tchd_last {ks : List Int} {k : Int} : tchd (ks ++ [k]) k = ks ++ [k] := by unfold tchd; rw [if_pos (by simp)]
theorem cont_len {as : List Acc} {cs : List (Int × Ct)} (h : cont as = cs) : as.length = cs.length := by rw [← h]; unfold cont; rw [List.length_map]
set_option maxHeartbeats 8000000 in
theorem state_con {w : World} (l : Led) (hl : (keys l).Nodup) (sa bk : Addr) (bo : Obj) (kvs : List (Int × Value)) (cs : List (Int × Ct)) (hbm : (bk, bo) ∈ l) (hbo : bo.IsDictOf (PySem.intKind pw w) kvs) (hbn : (bk == sysModules) = false) (h8 : kvs.length ≤ 8) (hbb : Bk w l kvs cs)
    (hso : (kvs.map (·.1)).Pairwise (· ≤ ·)) (hcs : ∀ z ∈ cs, 0 ≤ z.2.bal ∧ z.2.bal < 2 ^ 256) (hone : ∀ (j : Nat) z, cs[j]? = some z → j + 1 < cs.length → z.2.sl = false) :
    Con w none 474 [.ref sa, .ref bk] 60 600 l (StatePost w l cs) := by
  intro mean mg mb dp un gd cn csc a ccd cl outer A₀ base h₀ L m s Q E B F X N T hk hd hu ret
  k_dflt ktr_enter
  k_steps
  unfold Halt
  k_dflt (refine Con.useK (new_con l hl sa) NewPost.el (by k_asm) (by k_asm) (by k_asm) (by k_asm) (fun p hp => hp) (by k_asm) (by first | exact rfl | assumption) (by walk_at "DEP") (by walk_at "UNI") ?_)
  intro V d od H0 e1 e2 e3 hvo hod hdn h0 tk0 F0 N0
  have hbm0 : (bk, bo) ∈ stL w.params V ((d, od) :: l) := st_rest (.tail _ hbm)
  k_steps
  unfold Halt
  k_dflt (refine For_list [Str.ofString "home", Str.ofString "nonce", Str.ofString "held", Str.ofString "code", Str.ofString "slots", Str.ofString "slot"] (by k_asm) ?_)
  k_steps
  unfold Halt
  k_dflt (refine sorted_dict (d := bk) rfl (by k_asm) (by k_asm) (by k_mem) hbo hbn (by omega) ?_)
  intro D1 v1 n1 c1 h1 tk1 F1 N1 l1 i1 p1 o1
  have hn1 : n1 = cs.map (·.1) := by
    rw [← hbb.keys]
    exact lks_uniq p1 o1 hso
  have hlt : ∀ p ∈ stL w.params V ((d, od) :: l), @Ne Nat p.1 D1 := fun p hp => Nat.ne_of_lt (l1 p hp)
  have N2 := News.sub N1 (l' := stL w.params V ((D1, PySem.W.listOf v1.toArray c1) :: (d, od) :: l)) (fun p hp => st_more.mp hp)
  have hv1 : v1.length = cs.length := by rw [i1.length, hn1, List.length_map]
  have hkc : kvs.length = cs.length := hbb.len
  have hnd : (cs.map (·.1)).Nodup := by rw [← hbb.keys]; exact kvs_nodup hbo
  refine ⟨D1, v1, c1, _, StJ w V.st D1 (PySem.W.listOf v1.toArray c1) d od l cs, rfl, rfl, by k_asm, N2, ⟨V, true, rfl, hvo, rfl, H0.more hlt, by rw [e1]; rfl, by rw [e2]; rfl, by rw [e3]; exact Nat.zero_le _, fun _ => rfl⟩, ?_, ?_, ?_⟩
  · rintro j nx ⟨V', b, -, -, rfl, -⟩
    exact st_rest (.head _)
  · rintro j v u nx I oI h5 tk5 hv ⟨V1, b, es, hvo1, rfl, H1, hac, hts, hrw, hbt⟩ hI hoI F5 N5
    rw [← es] at F5 ⊢
    (try k_fold)
    clear N1 N2
    have hjl : j < cs.length := by rw [← hv1]; exact (List.getElem?_eq_some_iff.mp hv).1
    have hb1 := hbt hjl
    subst hb1
    obtain ⟨k, t5, hk5, rfl⟩ := ints_at i1 hv
    rw [hn1, List.getElem?_map] at hk5
    obtain ⟨z, hz, rfl⟩ := Option.map_eq_some_iff.mp hk5
    obtain ⟨k, c⟩ := z
    have hkv : ∃ x, kvs[j]? = some (k, x) ∧ BkE w l x c := by
      have hj2 : j < kvs.length := by rw [hkc]; exact hjl
      obtain ⟨c', q1, q2⟩ := hbb.get (List.getElem?_eq_getElem hj2)
      rw [hz] at q1
      cases q1
      exact ⟨_, List.getElem?_eq_getElem hj2, q2⟩
    obtain ⟨x, hkx, U, t1, t2, t3, dd2, oD, tD, rfl, mU, md, hoD, hdn2⟩ := hkv
    have hvk := valueAt_of_get (kvs_nodup hbo) hkx
    have H6 : WF w V1 ((I, oI) :: stRest D1 (PySem.W.listOf v1.toArray c1) d od l true) := H1.more hI
    have N6 := News.sub N5 (l' := stL w.params V1 ((I, oI) :: stRest D1 (PySem.W.listOf v1.toArray c1) d od l true)) (fun p hp => st_more.mp hp)
    clear N5
    have mr : ∀ p ∈ l, p ∈ (I, oI) :: stRest D1 (PySem.W.listOf v1.toArray c1) d od l true := fun p hp => .tail _ (.tail _ (.tail _ hp))
    have hbm6 : (bk, bo) ∈ stL w.params V1 ((I, oI) :: stRest D1 (PySem.W.listOf v1.toArray c1) d od l true) := st_rest (mr _ hbm)
    have mU6 : (U, tupO [.int c.nonce t1, .int c.bal t2, .bytes c.code t3, .ref dd2]) ∈ stL w.params V1 ((I, oI) :: stRest D1 (PySem.W.listOf v1.toArray c1) d od l true) := st_rest (mr _ mU)
    have q1 : (V1.st, instObj 439 V1.ds) ∈ stL w.params V1 ((I, oI) :: stRest D1 (PySem.W.listOf v1.toArray c1) d od l true) := .head _
    have q2 : (V1.ds, stO w.params V1) ∈ stL w.params V1 ((I, oI) :: stRest D1 (PySem.W.listOf v1.toArray c1) d od l true) := .tail _ (.head _)
    generalize hR : (I, oI) :: stRest D1 (PySem.W.listOf v1.toArray c1) d od l true = R at *
    have hct0 : ctAt (cont V1.accs) k = none := by rw [hac]; exact take_none hnd hz
    have hts0 : k ∉ V1.touched := by rw [hts]; exact take_notin hnd hz
    have hla : V1.accs.length ≤ 8 := by have := congrArg List.length hac; unfold cont at this; rw [List.length_map] at this; rw [this, List.length_take]; omega
    have hlt8 : V1.touched.length ≤ 8 := by rw [hts, List.length_map, List.length_take]; omega
    have hcb := hcs _ (List.mem_of_getElem? hz)
    have hr1 : V1.rows.length ≤ 200 := by omega
    k_steps
    unfold Halt
    k_dflt (refine Con.useU (set_nonce_con V1 R H6 k c.nonce _ _ (Nat.le_trans hla (by decide)) (Nat.le_trans hlt8 (by decide)) (Nat.le_trans hr1 (by decide))) (by k_asm) (by k_asm) (by k_asm) (by k_asm) (fun p hp => hp) (by k_asm) (by first | exact rfl | assumption) (by walk_at "DEP") (by walk_at "UNI") ?_)
    intro V7 h7 tk7 H7 es7 ed7 eo7 ev7 hc7 ht7 hw7 F7 N7
    rw [updC_new hct0] at hc7
    rw [tchd_new hts0] at ht7
    have hla7 := cont_len hc7
    have hlt7 := congrArg List.length ht7
    rw [List.length_append] at hla7 hlt7
    simp only [List.length_map, List.length_cons, List.length_nil] at hla7 hlt7
    have hlc : (cont V1.accs).length = V1.accs.length := List.length_map ..
    have ka7 : V7.accs.length ≤ 9 := by rw [hla7, hlc]; exact Nat.add_le_add_right hla (0 + 1)
    have kt7 : V7.touched.length ≤ 9 := by rw [hlt7]; exact Nat.add_le_add_right hlt8 (0 + 1)
    have hr7 : V7.rows.length ≤ 203 := Nat.le_trans hw7 (Nat.add_le_add_right hr1 3)
    clear N6 q1 q2 hbm6 mU6
    have q1 : (V1.st, instObj 439 V1.ds) ∈ stL w.params V7 R := by rw [← es7, ← ed7]; exact .head _
    have q2 : (V1.ds, stO w.params V1) ∈ stL w.params V7 R := by rw [← ed7, ← eo7]; exact .tail _ (.head _)
    k_steps
    unfold Halt
    have C8 := set_balance_con (hv0 := none) V7 R H7 k c.bal t5 t2 (Nat.le_trans ka7 (by decide)) (Nat.le_trans kt7 (by decide)) (Nat.le_trans hr7 (by decide)) hcb.1 hcb.2
    rw [es7] at C8
    k_dflt (refine Con.useU C8 (by k_asm) (by k_asm) (by k_asm) (by k_asm) (fun p hp => hp) (by k_asm) (by first | exact rfl | assumption) (by walk_at "DEP") (by walk_at "UNI") ?_)
    intro V8 h8a tk8 H8 es8 ed8 eo8 ev8 hc8 ht8 hw8 F8 N8
    rw [hc7, updC_last hct0] at hc8
    rw [ht7, tchd_last] at ht8
    rw [es7] at es8
    rw [ed7] at ed8
    rw [eo7] at eo8
    rw [ev7] at ev8
    have hla8 := cont_len hc8
    have hlt8b := congrArg List.length ht8
    rw [List.length_append] at hla8 hlt8b
    simp only [List.length_map, List.length_cons, List.length_nil] at hla8 hlt8b
    have ka8 : V8.accs.length ≤ 9 := by rw [hla8, hlc]; exact Nat.add_le_add_right hla (0 + 1)
    have kt8 : V8.touched.length ≤ 9 := by rw [hlt8b]; exact Nat.add_le_add_right hlt8 (0 + 1)
    have hs8 : V8.rows.length ≤ V1.rows.length + 6 := Nat.le_trans hw8 (Nat.add_le_add_right hw7 3)
    have hr8 : V8.rows.length ≤ 206 := Nat.le_trans hs8 (Nat.add_le_add_right hr1 6)
    clear N7 q1 q2 C8
    have q1 : (V1.st, instObj 439 V1.ds) ∈ stL w.params V8 R := by rw [← es8, ← ed8]; exact .head _
    have q2 : (V1.ds, stO w.params V1) ∈ stL w.params V8 R := by rw [← ed8, ← eo8]; exact .tail _ (.head _)
    k_steps
    unfold Halt
    have C9 := set_code_con (hv0 := none) V8 R H8 k c.code t5 t3 (Nat.le_trans ka8 (by decide)) (Nat.le_trans kt8 (by decide)) (Nat.le_trans hr8 (by decide))
    rw [es8] at C9
    k_dflt (refine Con.useU C9 (by k_asm) (by k_asm) (by k_asm) (by k_asm) (fun p hp => hp) (by k_asm) (by first | exact rfl | assumption) (by walk_at "DEP") (by walk_at "UNI") ?_)
    intro V9 h9 tk9 H9 es9 ed9 eo9 ev9 hc9 ht9 hw9 F9 N9
    rw [hc8, updC_last hct0] at hc9
    rw [ht8, tchd_last] at ht9
    rw [es8] at es9
    rw [ed8] at ed9
    rw [eo8] at eo9
    rw [ev8] at ev9
    have hs9 : V9.rows.length ≤ V1.rows.length + 9 := Nat.le_trans hw9 (Nat.add_le_add_right hs8 3)
    clear N8 q1 q2 C9
    have q1 : (V1.st, instObj 439 V1.ds) ∈ stL w.params V9 R := by rw [← es9, ← ed9]; exact .head _
    have q2 : (V1.ds, stO w.params V1) ∈ stL w.params V9 R := by rw [← ed9, ← eo9]; exact .tail _ (.head _)
    have md9 : (dd2, oD) ∈ stL w.params V9 R := st_rest (mr _ md)
    k_steps
    unfold Halt
    k_dflt (refine For_list [Str.ofString "slot"] (by k_asm) ?_)
    k_steps
    unfold Halt
    k_dflt (refine sorted_dict (d := dd2) rfl (by k_asm) (by k_asm) (by k_mem) hoD hdn2 sl_len ?_)
    intro D2 v2 n2 c2 h2 tk2 F2 N2 l2 i2 p2 o2
    cases hsl : c.sl with
    | false =>
      rw [hsl] at p2
      have en2 : n2 = [] := by simpa [slKvs] using p2
      subst en2
      have ev2 : v2 = [] := by cases i2; rfl
      subst ev2
      refine ⟨D2, [], c2, _, fun _ nx => nx = (D2, PySem.W.listOf [].toArray c2) :: stL w.params V9 R, rfl, rfl, by k_asm, by k_asm, rfl, fun _ nx h => h ▸ .head _, ?_, ?_⟩
      · intro j v u nx I oI h tk hv
        simp at hv
      · rintro u2 nx h6 tk6 rfl F6 N6
        k_steps
        subst hR
        obtain ⟨b1, b2, b3⟩ := st_back H9 (News.sub N6 fun p hp => .tail _ hp)
        have hc' : cont V9.accs = cs.take (j + 1) := by rw [hc9, hac, List.take_add_one, hz]; exact congrArg (fun x => cs.take j ++ [(k, x)]) (by obtain ⟨cn, cb, cc, csl⟩ := c; cases hsl; rfl)
        refine ⟨_, _, _, _, rfl, by k_asm, b1, b2, ?_, V9, true, es9, ev9.trans hvo1, rfl, b3, hc', by rw [ht9, hts, List.take_add_one, hz, List.map_append]; rfl, by omega, fun _ => rfl⟩
        repeat (first | exact LocOff.refl | refine LocOff.put (by decide +kernel) ?_ | refine LocOff.over (by decide +kernel) ?_)
    | true =>
      rw [hsl] at p2
      have en2 : n2 = [5] := by simpa [slKvs] using p2
      subst en2
      obtain ⟨tv, ev2⟩ : ∃ tv, v2 = [.int 5 tv] := by
        cases i2 with
        | cons k t r => cases r; exact ⟨t, rfl⟩
      subst ev2
      have hcA : (accAt V9.accs k).map Acc.ct = some { nonce := c.nonce, bal := c.bal, code := c.code, sl := false } := by rw [← ctAt_cont, hc9]; exact ctAt_last hct0
      obtain ⟨xa, hxa, hxc⟩ := Option.map_eq_some_iff.mp hcA
      have hxs : xa.sl = false := congrArg Ct.sl hxc
      have hv5 : valueAt (slKvs c.sl tD) 5 = some (.int 9 tD) := by rw [hsl]; rfl
      have hla9 := cont_len hc9
      have hlt9 := congrArg List.length ht9
      rw [List.length_append] at hla9 hlt9
      simp only [List.length_cons, List.length_nil] at hla9 hlt9
      have ka9 : V9.accs.length ≤ 9 := by rw [hla9, hlc]; exact Nat.add_le_add_right hla (0 + 1)
      have kt9 : V9.touched.length ≤ 9 := by rw [hlt9]; exact Nat.add_le_add_right hlt8 (0 + 1)
      subst hR
      have hd0 : ∀ p ∈ stL w.params V9 ((I, oI) :: stRest D1 (PySem.W.listOf v1.toArray c1) d od l true), @Ne Nat p.1 D2 := fun p hp => Nat.ne_of_lt (l2 p hp)
      have HD := H9.more (o := PySem.W.listOf [Value.int 5 tv].toArray c2) hd0
      refine ⟨D2, [.int 5 tv], c2, _, fun i nx => (D2, PySem.W.listOf [Value.int 5 tv].toArray c2) ∈ nx ∧ (i = 0 → nx = (D2, PySem.W.listOf [Value.int 5 tv].toArray c2) :: stL w.params V9 ((I, oI) :: stRest D1 (PySem.W.listOf v1.toArray c1) d od l true)) ∧ (i = 1 → ∃ V10 : StV, V10.st = V1.st ∧ V10.vo = .ref d ∧ nx = stL w.params V10 ((D2, PySem.W.listOf [Value.int 5 tv].toArray c2) :: (I, oI) :: (D1, PySem.W.listOf v1.toArray c1) :: l) ∧ WF w V10 ((D2, PySem.W.listOf [Value.int 5 tv].toArray c2) :: (I, oI) :: (D1, PySem.W.listOf v1.toArray c1) :: l) ∧ cont V10.accs = cont V1.accs ++ [(k, c)] ∧ V10.touched = V1.touched ++ [k] ∧ V10.rows.length ≤ V1.rows.length + 12), rfl, rfl, by k_asm, by k_asm, ⟨.head _, fun _ => rfl, fun h => (nomatch h)⟩, fun i nx h => h.1, ?_, ?_⟩
      · intro i v u2 nx I2 oI2 h6 tk6 hvi hJ9 hI2 hoI2 F6 N6
        (try k_fold)
        obtain ⟨-, hnx, -⟩ := hJ9
        have hi0 : i = 0 := by
          rcases i with _ | i
          · rfl
          · simp at hvi
        subst hi0
        have hv6 : v = .int 5 tv := by simpa using hvi.symm
        subst hv6
        have e6 := hnx rfl
        subst e6
        have md6 : (dd2, oD) ∈ stL w.params V9 ((I, oI) :: stRest D1 (PySem.W.listOf v1.toArray c1) d od l true) := md9
        k_steps
        unfold Halt
        have H2 := HD.more (D := I2) (o := oI2) (fun p hp => hI2 p (st_more.mp hp))
        have pm : ((I2, oI2) :: (D2, PySem.W.listOf [Value.int 5 tv].toArray c2) :: (I, oI) :: stRest D1 (PySem.W.listOf v1.toArray c1) d od l true).Perm ((d, od) :: (I2, oI2) :: (D2, PySem.W.listOf [Value.int 5 tv].toArray c2) :: (I, oI) :: (D1, PySem.W.listOf v1.toArray c1) :: l) :=
          List.perm_middle (l₁ := [(I2, oI2), (D2, PySem.W.listOf [Value.int 5 tv].toArray c2), (I, oI), (D1, PySem.W.listOf v1.toArray c1)]) (l₂ := l) (a := (d, od))
        have C9 := set_slot_con (hv0 := none) V9 _ d od (H2.perm pm) (ev9.trans hvo1) hod hdn k t5 tv tD xa hxa hxs (Nat.le_trans ka9 (by decide)) (Nat.le_trans kt9 (by decide)) (Nat.le_trans (Nat.le_trans hs9 (Nat.add_le_add_right hr1 9)) (by decide))
        rw [es9] at C9
        k_dflt (refine Con.useU C9 (by k_asm) (by k_asm) (by k_asm) (by k_asm) (fun p hp => (by have q := st_more.mp (st_perm pm.symm hp); rcases List.mem_cons.mp q with h | h; exact h ▸ .head _; exact .tail _ (st_more.mp h))) (by k_asm) (by first | exact rfl | assumption) (by walk_at "DEP") (by walk_at "UNI") ?_)
        intro V10 h10 tk10 H10 es10 _ _ ev10 hc10 ht10 hw10 F10 N10
        rw [hc9, updC_last hct0] at hc10
        rw [ht9, tchd_last] at ht10
        rw [es9] at es10
        have hcc : cont V10.accs = cont V1.accs ++ [(k, c)] := by rw [hc10]; exact congrArg (fun x => cont V1.accs ++ [(k, x)]) (by obtain ⟨cn, cb, cc, csl⟩ := c; cases hsl; rfl)
        k_steps
        obtain ⟨b1, b2, b3⟩ := st_back H10 (by k_asm)
        refine ⟨_, _, _, _, rfl, by k_asm, b1, b2, ?_, st_rest (.head _), fun h => (nomatch h), fun _ => ⟨V10, es10, ev10.trans (ev9.trans hvo1), rfl, b3, hcc, ht10, Nat.le_trans hw10 (Nat.add_le_add_right hs9 3)⟩⟩
        repeat (first | exact LocOff.refl | refine LocOff.put (by decide +kernel) ?_ | refine LocOff.over (by decide +kernel) ?_)
      · rintro u2 nx h6 tk6 ⟨-, -, hJ⟩ F6 N6
        obtain ⟨V10, es10, ev10, hnx, H10, hc10, ht10, hw10⟩ := hJ rfl
        subst hnx
        k_steps
        obtain ⟨b1, b2, b3⟩ := st_back H10.less.1 (News.sub (by k_asm) fun p hp => st_more.mpr (.tail _ hp))
        refine ⟨_, _, _, _, rfl, by k_asm, b1, b2, ?_, V10, false, es10, ev10, rfl, b3, by rw [hc10, hac, List.take_add_one, hz]; rfl, by rw [ht10, hts, List.take_add_one, hz, List.map_append]; rfl, by omega, fun hlt => ?_⟩
        · repeat (first | exact LocOff.refl | refine LocOff.put (by decide +kernel) ?_ | refine LocOff.over (by decide +kernel) ?_)
        · have := hone j _ hz hlt
          rw [hsl] at this
          cases this
  · rintro u nx h5 tk5 ⟨V1, b, es, hvo1, rfl, H1, hac, hts, hrw, hbt⟩ F5 N5
    clear N1 N2
    have H2 : WF w V1 l := by
      have q := H1.less.1
      cases b with
      | true => exact q.less.1
      | false => exact q
    have N6 := News.sub N5 (l' := stL w.params V1 l) (fun p hp => st_drop hp)
    clear N5
    rw [hv1, List.take_length] at hac hts
    have h64 : V1.touched.length < 64 := by rw [hts, List.length_map]; omega
    have q1 : (V1.st, instObj 439 V1.ds) ∈ stL w.params V1 l := .head _
    have q2 : (V1.ds, stO w.params V1) ∈ stL w.params V1 l := .tail _ (.head _)
    rw [← es] at F5
    k_steps
    unfold Halt
    k_dflt (refine Con.useK (begin_con V1 l H2 h64) EndPost.el (by k_asm) (by k_asm) (by k_asm) (by k_asm) (fun p hp => hp) (by k_asm) (by first | exact rfl | assumption) (by walk_at "DEP") (by walk_at "UNI") ?_)
    intro V2 H7 f1 f2 f3 f4 h7 tk7 F7 N7
    k_steps
    exact ret _ _ _ _ (by k_asm) (by k_asm) ⟨V2, by rw [f1], rfl, H7, by rw [f2, hac, hts, keep_all], f3, f4⟩
-- PART 57: _law_gift
theorem seqIdx {k : Int} {n : Nat} (h0 : 0 ≤ k) (h1 : k < (n : Int)) : seqIndex? k n = some k.toNat := by
  unfold seqIndex?
  have : ¬ k < 0 := by omega
  simp [this, h0, h1]
theorem item_int {prog : Program} {w : World} {A : Around} {E : Value → Shared → Prop} {s : Shared} {h₀ : Heap} {L : Addr} {news : Led} {value slice : Expr} {T : Addr} {vs : List Value} {k : Int} {u : Tok} {Q : Value → Shared → Prop} (N : News h₀ L s.heap news) (hm : (T, tupO vs) ∈ news) (h0 : 0 ≤ k) (h1 : k < (vs.length : Int)) (h63 : k < 2 ^ 63) (hv : ∀ v ∈ vs, ∃ z t, v = Value.int z t)
    (h : ∀ z t, Q (.int z t) s) (hs : subscripted slice false (.ref T) (.int k u) = operate [.ref T, .int k u] (getItem (.ref T) (.int k u)) := by with_unfolding_all rfl) (hg : ∀ r, letTemporaryGo value (.ref T) r = pure () := by intro _; with_unfolding_all rfl) :
    wpAny (model prog w) A (subscriptTail value slice (.ref T) (.int k u)) Q E s := by
  have hlt : k.toNat < vs.length := by omega
  obtain ⟨z, t, e⟩ := hv _ (List.getElem_mem hlt)
  have hx : vs[k.toNat]? = some (.int z t) := by rw [List.getElem?_eq_getElem hlt, e]
  exact item_tupleL (x := .int z t) (j := k.toNat) ⟨_, (N _ hm).1, rfl, _, rfl⟩ (by omega) (by omega) (seqIdx h0 h1) hx (h z t) hs hg
/-- a draw by its contract, its post told in pieces -/
theorem Con.useD {w : World} {hd : Option Value} {fa : Addr} {args : List Value} {D U : Nat} {l : Led} {many : Int} {lg : Int → Tok → Tok → Nat → Led} (C : Con w hd fa args D U l (fun r l' => ∃ r₀ t st' t1' t2' n', r = .int r₀ t ∧ 0 ≤ r₀ ∧ r₀ < many ∧ 0 ≤ st' ∧ st' < 101 ∧ l' = lg st' t1' t2' n'))
    {mean : ExcName → Option Value} {mg mb : Str → Option Value} {dp un : Nat} {gd : Option (List Code)} {cn : Str} {cs : Scope} {a : Addr} {ccd : Value} {cl : List (Str × Addr)} {outer : List Env} {A₀ : Around} {base h₀ : Heap} {L : Addr}
    {m : Str → Option Value} {s : Shared} {Q E : Value → Shared → Prop} {news : Led}
    (B : Below A₀ base outer h₀) (F : Fr h₀ L s.heap m) (X : (Mine.hd.heap_39 w.params).In h₀) (N : News h₀ L s.heap news) (hs : ∀ p ∈ l, p ∈ news) (T : Tp mean mg mb h₀) (hk : cs.kind = .function) (hdp : dp + D < 600) (hun : un + U < 9000)
    (ret : ∀ (r₀ : Int) (t : Tok) (st' : Int) (t1' t2' : Tok) (n' : Nat) h' tk', 0 ≤ r₀ → r₀ < many → 0 ≤ st' → st' < 101 → Fr h₀ L h' m → News h₀ L h' (lg st' t1' t2' n') → Q (.int r₀ t) { s with heap := h', toks := tk' }) :
    wpAny (model pw w) (atp hd dp un gd cn cs L a ccd cl outer) (call (.ref fa) args) Q E s :=
  Con.use C B F X N hs T hk hdp hun fun r h' tk' l' F' N' P => by
    obtain ⟨r₀, t, st', t1', t2', n', rfl, a1, a2, a3, a4, rfl⟩ := P
    exact ret r₀ t st' t1' t2' n' h' tk' a1 a2 a3 a4 F' N'
theorem gift_sub {a b c : Addr × Obj} {tl : Led} {p : Addr × Obj} (h : p ∈ a :: b :: c :: tl) : p ∈ c :: a :: b :: tl :=
  (List.perm_middle (l₁ := [a, b]) (l₂ := tl) (a := c)).mem_iff.mp h
theorem gift_sub2 {a b c : Addr × Obj} {tl : Led} {p : Addr × Obj} (h : p ∈ a :: b :: tl) : p ∈ a :: b :: c :: tl :=
  (List.mem_append (s := [a, b]) (t := tl)).mp h |>.elim (fun q => List.mem_append_left (c :: tl) q) (fun q => List.mem_append_right [a, b] (.tail _ q))
theorem gift_el {wl xl : Addr} {vs : List Value} {sp : Int} {nn : Nat} {tail : Led} (M : Value → Led → Prop)
    (h : ∀ (T : Addr) (home amt : Int) (th ta : Tok) (st' : Int) (t1' t2' : Tok) (n' : Nat), 0 ≤ st' → st' < 101 → @LT.lt Nat _ wl T → @LT.lt Nat _ xl T → AllLt T tail → M (.ref T) ((wl, wellO xl sp st' t1' t2' n') :: (xl, PySem.W.listOf vs.toArray nn) :: (T, tupO [.int home th, .int amt ta]) :: tail)) :
    ∀ r l', (∃ (T : Addr) (home amt : Int) (th ta : Tok) (st' : Int) (t1' t2' : Tok) (n' : Nat), r = .ref T ∧ 0 ≤ st' ∧ st' < 101 ∧ l' = (wl, wellO xl sp st' t1' t2' n') :: (xl, PySem.W.listOf vs.toArray nn) :: (T, tupO [.int home th, .int amt ta]) :: tail ∧ @LT.lt Nat _ wl T ∧ @LT.lt Nat _ xl T ∧ AllLt T tail) → M r l' := by
  rintro r l' ⟨T, home, amt, th, ta, st', t1', t2', n', rfl, a, b, rfl, c, d, e⟩
  exact h T home amt th ta st' t1' t2' n' a b c d e
set_option maxHeartbeats 8000000 in
theorem gift_con {w : World} (wl xl : Addr) (vs : List Value) (ns : List Int) (spot st most : Int) (t1 t2 tm : Tok) (n nn : Nat) (tail : Led)
    (hi : IntsAre vs ns) (hlen : ns.length ≤ 40) (h0 : 0 ≤ spot) (h1 : spot ≤ 900) (h2 : 0 ≤ st) (h3 : st < 101) (hne : @Ne Nat wl xl) (hnt : ∀ p ∈ tail, p.1 ≠ wl) :
    Con w none 457 [.ref wl, .int most tm] 10 60 ((wl, wellO xl spot st t1 t2 n) :: (xl, PySem.W.listOf vs.toArray nn) :: tail)
      (fun r l' => ∃ (T : Addr) (home amt : Int) (th ta : Tok) (st' : Int) (t1' t2' : Tok) (n' : Nat), r = .ref T ∧ 0 ≤ st' ∧ st' < 101 ∧ l' = (wl, wellO xl (spot + 1 + 1 + 1) st' t1' t2' n') :: (xl, PySem.W.listOf vs.toArray nn) :: (T, tupO [.int home th, .int amt ta]) :: tail ∧ @LT.lt Nat _ wl T ∧ @LT.lt Nat _ xl T ∧ AllLt T tail) := by
  intro mean mg mb dp un gd cn cs a ccd cl outer A₀ base h₀ L m s Q E B F X N T hk hd hu ret
  k_dflt ktr_enter
  repeat' (first | (k_unfold; (try dsimp only)) | (k_end; wrow_close) | (dsimp only; walk1) | walk1 | (leave1; walk_say "STEP leave1"; try dsimp only) | fail "no step")
  rename_i Da ha Fa Na la lb lc
  obtain ⟨va, hva, hla, Nb⟩ : ∃ va : List Value, (∀ v ∈ va, ∃ z t, v = Value.int z t) ∧ va.length = 8 ∧ News _ _ ha ((Da, tupO va) :: (wl, wellO xl spot st t1 t2 n) :: (xl, PySem.W.listOf vs.toArray nn) :: tail) := ⟨[_, _, _, _, _, _, _, _], by simp, rfl, Na⟩
  clear Na
  unfold Halt
  k_dflt (refine Con.useD (draw_con wl xl vs ns spot st 8 t1 t2 _ n nn ((Da, tupO va) :: tail) hi hlen h0 (by omega) h2 h3 (by decide) (by decide) hne ?hnt) (by k_asm) (by k_asm) (by k_asm) (by k_asm) ?hs (by k_asm) (by first | exact rfl | assumption) (by walk_at "DEP") (by walk_at "UNI") ?_)
  case hs => exact fun p hp => gift_sub hp
  case hnt => exact fun p hp => by rcases List.mem_cons.mp hp with h | hp; rw [h]; exact Nat.ne_of_gt la; exact hnt p hp
  intro x1 y1 s1 t11 t12 n1 h1a tk1 g1 g2 g3 g4 F1 N1
  repeat' (first | (k_unfold; (try dsimp only)) | (k_end; wrow_close) | (dsimp only; walk1) | walk1 | (leave1; walk_say "STEP leave1"; try dsimp only) | fail "no step")
  k_dflt (refine item_int (vs := va) (by k_asm) (by k_mem) g1 (by rw [hla]; exact g2) (by omega) hva ?_)
  intro home th
  have N2 := News.sub N1 (l' := (wl, wellO xl (spot + 1) s1 t11 t12 n1) :: (xl, PySem.W.listOf vs.toArray nn) :: tail) (fun p hp => gift_sub2 hp)
  clear N1
  repeat' (first | (k_unfold; (try dsimp only)) | (k_end; wrow_close) | (dsimp only; walk1) | walk1 | (leave1; walk_say "STEP leave1"; try dsimp only) | fail "no step")
  unfold Halt
  k_dflt (refine Con.useD (draw_con wl xl vs ns (spot + 1) s1 _ t11 t12 _ n1 nn tail hi hlen (by omega) (by omega) g3 g4 (by decide +kernel) (by decide +kernel) hne hnt) (by k_asm) (by k_asm) (by k_asm) (by k_asm) ?hs (by k_asm) (by first | exact rfl | assumption) (by walk_at "DEP") (by walk_at "UNI") ?_)
  case hs => exact fun p hp => hp
  intro x2 y2 s2 t21 t22 n2 h2a tk2 _ _ g5 g6 F3 N3
  repeat' (first | (k_unfold; (try dsimp only)) | (k_end; wrow_close) | (dsimp only; walk1) | walk1 | (leave1; walk_say "STEP leave1"; try dsimp only) | fail "no step")
  rename_i Dc hc Fc Nc lc ld le
  obtain ⟨vc, hvc, hlc, Nd⟩ : ∃ vc : List Value, (∀ v ∈ vc, ∃ z t, v = Value.int z t) ∧ vc.length = 8 ∧ News _ _ hc ((Dc, tupO vc) :: (wl, wellO xl (spot + 1 + 1) s2 t21 t22 n2) :: (xl, PySem.W.listOf vs.toArray nn) :: tail) := ⟨[_, _, _, _, _, _, _, _], by simp, rfl, Nc⟩
  clear Nc
  unfold Halt
  k_dflt (refine Con.useD (draw_con wl xl vs ns (spot + 1 + 1) s2 8 t21 t22 _ n2 nn ((Dc, tupO vc) :: tail) hi hlen (by omega) (by omega) g5 g6 (by decide) (by decide) hne ?hnt) (by k_asm) (by k_asm) (by k_asm) (by k_asm) ?hs (by k_asm) (by first | exact rfl | assumption) (by walk_at "DEP") (by walk_at "UNI") ?_)
  case hs => exact fun p hp => gift_sub hp
  case hnt => exact fun p hp => by rcases List.mem_cons.mp hp with h | hp; rw [h]; exact Nat.ne_of_gt lc; exact hnt p hp
  intro x4 y4 s4 t41 t42 n4 h4a tk4 g7 g8 g9 g10 F4 N4
  repeat' (first | (k_unfold; (try dsimp only)) | (k_end; wrow_close) | (dsimp only; walk1) | walk1 | (leave1; walk_say "STEP leave1"; try dsimp only) | fail "no step")
  k_dflt (refine item_int (vs := vc) (by k_asm) (by k_mem) g7 (by rw [hlc]; exact g8) (by omega) hvc ?_)
  intro amt ta
  have N5 := News.sub N4 (l' := (wl, wellO xl (spot + 1 + 1 + 1) s4 t41 t42 n4) :: (xl, PySem.W.listOf vs.toArray nn) :: tail) (fun p hp => gift_sub2 hp)
  clear N4
  repeat' (first | (k_unfold; (try dsimp only)) | (k_end; wrow_close) | (dsimp only; walk1) | walk1 | (leave1; walk_say "STEP leave1"; try dsimp only) | fail "no step")
  refine ret _ _ _ ((wl, _) :: (xl, _) :: (_, _) :: tail) (by k_asm) (News.sub (by k_asm) (fun p hp => gift_sub hp)) ?_
  exact ⟨_, home, amt, th, ta, s4, t41, t42, n4, rfl, g9, g10, rfl, by assumption, by assumption, by assumption⟩
-- PART 58: a def called out of the law's own frame: over a ground that hides that frame, the frame's object in the ledger
structure Gd (w : World) (A : Around) (base g₀ : Heap) (env : Env) (L : Addr) (oL : Obj) (mean : ExcName → Option Value) (mg mb : Str → Option Value) : Prop where
  B : Below A base [env] g₀
  f : env.frame = some L
  o : g₀.get? L = some oL
  d : ∃ es ep, oL.data = .dict es ep
  X : (Mine.hd.heap_39 w.params).In base
  T : Tp mean mg mb base
abbrev lwO (oL : Obj) (sl : Array (Option Value)) : Obj := { oL with slots := sl }
section
variable {w : World} {A : Around} {base g₀ : Heap} {env : Env} {L : Addr} {oL : Obj} {mean : ExcName → Option Value} {mg mb : Str → Option Value} (Z : Gd w A base g₀ env L oL mean mg mb)
include Z
theorem Gd.fs : [env].filterMap (·.frame) = [L] := by
  rw [List.filterMap_cons, Z.f]; rfl
theorem Gd.bL : base.get? L = none := (Z.B.frames.mem (by rw [Z.fs]; exact .head _)).1
theorem Gd.st : base.StaysIn (g₀.hide L) := fun b o e => (Heap.hide_ne _ (fun q => by rw [q, Z.bL] at e; cases e)).trans (Z.B.stays b o e)
theorem Gd.x : (Mine.hd.heap_39 w.params).In (g₀.hide L) := Z.X.keeps Z.st
theorem Gd.t : Tp mean mg mb (g₀.hide L) := Z.T.keeps Z.st
theorem Gd.to {h : Heap} {L' : Addr} {m : Str → Option Value} {l : Led} {sl : Array (Option Value)} (F : Fr (g₀.hide L) L' h m) (N : News (g₀.hide L) L' h l) (hL : (L, lwO oL sl) ∈ l) :
    ∃ g, KtsTurn ([env].filterMap (·.frame)) g₀ g ∧ Below A base [env] g ∧ Fr g L' h m ∧ (∀ l', (∀ p ∈ l', p ∈ l) → (∀ p ∈ l', p.1 ≠ L) → News g L' h l') ∧ (Mine.hd.heap_39 w.params).In g ∧ Tp mean mg mb g ∧ KtsDicts ([env].filterMap (·.frame)) g := by
  have hLh := (N _ hL).1
  obtain ⟨T, S⟩ := kts_turn_at (fs := [env].filterMap (·.frame)) (g := g₀) (h := h)
    (fun b hb => by rw [Z.fs] at hb; rw [List.mem_singleton.mp hb]; exact ⟨_, Z.o⟩)
    (fun b o e nm => by
      rw [Z.fs] at nm
      exact F.keep b o ((Heap.hide_ne _ (fun q => nm (by rw [q]; exact .head _))).trans e))
    (fun b o e hm => by
      rw [Z.fs] at hm
      obtain rfl := List.mem_singleton.mp hm
      rw [Z.o] at e
      cases e
      exact ⟨sl, hLh⟩)
  have K : Below A base [env] (ktsHeap h ([env].filterMap (·.frame)) g₀) := ⟨Z.B.stack, fun b o e => T.other b o (Z.B.stays b o e) (fun hm => by
    rw [(Z.B.frames.mem hm).1] at e
    cases e), Z.B.frames.of_keeps fun b o e _ => by
      obtain ⟨sl, hs⟩ := T.up e
      exact ⟨_, hs, rfl⟩⟩
  refine ⟨_, T, K, ⟨F.ns, S, by rw [T.size, ← Heap.hide_size g₀ L]; exact F.above⟩, fun l' hs hn p hp => ?_, Z.X.keeps K.stays, Z.T.keeps K.stays, fun b hb => ?_⟩
  · obtain ⟨a1, a2, a3⟩ := N p (hs p hp)
    refine ⟨a1, a2, T.none_ _ ?_⟩
    rw [← Heap.hide_ne g₀ (hn p hp)]
    exact a3
  · rw [Z.fs] at hb
    obtain rfl := List.mem_singleton.mp hb
    obtain ⟨sl', hs⟩ := T.up Z.o
    obtain ⟨es, ep, hd⟩ := Z.d
    exact ⟨_, es, ep, hs, hd⟩
theorem Gd.back {g h : Heap} {L' : Addr} {m : Str → Option Value} {l : Led} (T : KtsTurn ([env].filterMap (·.frame)) g₀ g) (F : Fr g L' h m) (N : News g L' h l) :
    Fr (g₀.hide L) L' h m ∧ ∃ sl, News (g₀.hide L) L' h ((L, lwO oL sl) :: l) ∧ ∀ p ∈ l, p.1 ≠ L := by
  obtain ⟨sl, hs⟩ := T.up Z.o
  have hne : ∀ p ∈ l, p.1 ≠ L := fun p hp q => by
    have := (N p hp).2.2
    rw [q, hs] at this
    cases this
  refine ⟨⟨F.ns, fun b o e => ?_, by rw [Heap.hide_size, ← T.size]; exact F.above⟩, sl, fun p hp => ?_, hne⟩
  · have hb : b ≠ L := fun q => by rw [q, Heap.hide_self] at e; cases e
    refine F.keep b o (T.other b o (Heap.of_hide e) ?_)
    rw [Z.fs]
    exact fun hm => hb (List.mem_singleton.mp hm)
  · rcases List.mem_cons.mp hp with rfl | hp
    · refine ⟨F.keep _ _ hs, fun q => ?_, Heap.hide_self _ _⟩
      have q' : L = L' := q
      have := Heap.lt_size hs
      exact absurd (Nat.lt_of_lt_of_le this F.above) (by rw [q']; exact Nat.lt_irrefl _)
    · obtain ⟨a1, a2, a3⟩ := N p hp
      refine ⟨a1, a2, ?_⟩
      rw [Heap.hide_ne g₀ (hne p hp)]
      cases q : g₀.get? p.1 with
      | none => rfl
      | some o =>
        obtain ⟨sl', hs'⟩ := T.up q
        rw [a3] at hs'
        cases hs'
end
/-- a def's contract out of the law's own frame -/
def ConS (w : World) (f : Addr) (args : List Value) (D U : Nat) (l : Led) (Post : Value → Led → Prop) : Prop :=
  ∀ (mean : ExcName → Option Value) (mg mb : Str → Option Value) (dp un : Nat) (gd : Option (List Code)) (cn : Str) (cs : Scope) (a : Addr) (ccd : Value) (cl : List (Str × Addr)) (A₀ : Around) (base h₀ : Heap) (L : Addr)
    (m : Str → Option Value) (s : Shared) (Q E : Value → Shared → Prop),
    Below A₀ base [] h₀ → Fr h₀ L s.heap m → (Mine.hd.heap_39 w.params).In h₀ → News h₀ L s.heap l → Tp mean mg mb h₀ → cs.kind = .function → dp + D < 600 → un + U < 9000 →
    (∀ r h' tk' l', Fr h₀ L h' m → News h₀ L h' l' → Post r l' → Q r { s with heap := h', toks := tk' }) →
    wpAny (model pw w) (atp none dp un gd cn cs L a ccd cl []) (call (.ref f) args) Q E s
theorem Con.useG {w : World} {hd : Option Value} {f : Addr} {args : List Value} {D U : Nat} {l : Led} {Post : Value → Led → Prop} (C : Con w hd f args D U l Post)
    {A : Around} {base g₀ : Heap} {env : Env} {L : Addr} {oL : Obj} {mean : ExcName → Option Value} {mg mb : Str → Option Value} (Z : Gd w A base g₀ env L oL mean mg mb)
    {dp un : Nat} {gd : Option (List Code)} {cn : Str} {cs : Scope} {a : Addr} {ccd : Value} {cl : List (Str × Addr)} {L' : Addr} {m : Str → Option Value} {s : Shared} {Q E : Value → Shared → Prop} {news : Led} {sl : Array (Option Value)}
    (F : Fr (g₀.hide L) L' s.heap m) (N : News (g₀.hide L) L' s.heap news) (hL : (L, lwO oL sl) ∈ news) (hs : ∀ p ∈ l, p ∈ news) (hne : ∀ p ∈ l, p.1 ≠ L) (hk : cs.kind = .function) (hdp : dp + D < 600) (hun : un + U < 9000)
    (ret : ∀ r h' tk' l' sl', Fr (g₀.hide L) L' h' m → News (g₀.hide L) L' h' ((L, lwO oL sl') :: l') → (∀ p ∈ l', p.1 ≠ L) → Post r l' → Q r { s with heap := h', toks := tk' }) :
    wpAny (model pw w) (atp hd dp un gd cn cs L' a ccd cl [env]) (call (.ref f) args) Q E s := by
  obtain ⟨g, T, K, Fg, Ng, Xg, Tg, -⟩ := Z.to F N hL
  refine Con.use C K Fg Xg (Ng l hs hne) (fun p hp => hp) Tg hk hdp hun fun r h' tk' l' F' N' P => ?_
  obtain ⟨F2, sl', N2, ne2⟩ := Z.back T F' N'
  exact ret r h' tk' l' sl' F2 N2 ne2 P
section
variable {w : World} {A₀ A : Around} {s : Shared} {base h₀ : Heap} {L : Addr} {m : Str → Option Value} {env : Env} {news : Led} {mean : ExcName → Option Value} {mg mb : Str → Option Value}
  {R : Result → Shared → Prop} {name qual : Str} {params : Arguments} {body : List Stmt} {scope : Scope} {dV kV doc pm cdv ct oc : Value} {an od : Option Addr} {osl : Array (Option Value)} {f : Addr} {args : Args} {binds : List (Str × Value)}
def LeaveG (h₀ : Heap) (L : Addr) (m : Str → Option Value) (g₀ : Heap) (oL : Obj) (R : Result → Shared → Prop) (v : Value) (s' : Shared) : Prop :=
  ∃ L' m' sl news', Fr (g₀.hide L) L' s'.heap m' ∧ News (g₀.hide L) L' s'.heap ((L, lwO oL sl) :: news') ∧ (∀ p ∈ news', p.1 ≠ L) ∧ (Fr h₀ L s'.heap m → News h₀ L s'.heap news' → R (.ok (.ret v)) s')
theorem code_defG (B : Below A₀ base [] h₀) (F : Fr h₀ L s.heap m) (X₀ : (Mine.hd.heap_39 w.params).In h₀) (N : News h₀ L s.heap news) (T : Tp mean mg mb h₀) (hA : A.frames = some [env]) (hf : env.frame = some L) (hke : env.scope.kind = .function)
    (ho : (Mine.hd.heap_39 w.params).lookup f = some ⟨oc, od, .func (fnOf name qual params body scope dV kV doc pm an cdv ct), osl⟩) (hcd : codeIn (Mine.hd.heap_39 w.params) cdv qual = true) (hroom : A.depth < recursionLimit)
    (hbind : BindsTo s (fnOf name qual params body scope dV kV doc pm an cdv ct) args binds) (hloc : ∀ y ∈ binds, scope.names.lookup y.1 = some .local)
    (h : ∀ g₀ oL sl L' h₁, Gd w A h₀ g₀ env L oL mean mg mb → Fr (g₀.hide L) L' h₁ (fun y => binds.reverse.lookup y) → News (g₀.hide L) L' h₁ ((L, lwO oL sl) :: news) → (∀ p ∈ news, p.1 ≠ L) → (∀ p ∈ news, p.1 < L') → (Mine.hd.heap_39 w.params).In (g₀.hide L) → Tp mean mg mb (g₀.hide L) →
      wpAny (model pw w) (A.deeper (envOf qual scope L' f cdv)) (execs body (envOf qual scope L' f cdv))
        (fun fl s' => LeaveG h₀ L m g₀ oL R (match fl with | .ret v => v | _ => .none) s')
        (fun e s' => wpAny (model pw w) (A.deeper (envOf qual scope L' f cdv)) (leaving (envOf qual scope L' f cdv) e) (fun _ s'' => R (.error e) s'') (fun e' s'' => R (.error e') s'') s')
        { s with heap := h₁, toks := s.toks + binds.length })
    (hco : scope.isCoroutine = false) (hgen : scope.isGenerator = false) (hk : scope.kind = .function)
    (hcell : ∀ x ∈ scope.names, x.2 ≠ .cell) : codeAny (model pw w) A (.call (.ref f) args) R s := by
  have X := X₀.keeps F.keep
  have hb : h₀.get? L = none := kts_self F
  refine codeAny_call_def (fd := fnOf name qual params body scope dV kV doc pm an cdv ct) (body := body) (binds := binds) hroom (X _ _ ho) rfl (T.nolimit.keeps F.keep) (codeRec_of X hcd) rfl hbind hcell hloc (fun h₁ hns hk₁ => ?_) hco hgen hk
  obtain ⟨oL, es, ep, hL, hLd, hLk, hLf⟩ := F.ns
  have nL : L ∉ news.map (·.1) := fun q => by
    obtain ⟨p, hp, e⟩ := List.mem_map.mp q
    exact (N p hp).2.1 e
  have hLg := hideAll_get (news.map (·.1)) hL nL
  have hLg := hideAll_get (news.map (·.1)) hL nL
  have B0 : Below A₀ h₀ [] h₀ := ⟨B.stack, fun _ _ e => e, trivial⟩
  obtain ⟨FG, BG, st, -⟩ := groundX (R := R) B0 F N hA hf hke
  have Z : Gd w A h₀ (hideAll s.heap (news.map (·.1))) env L oL mean mg mb := ⟨BG, hf, hLg, ⟨es, ep, hLd⟩, X₀, T⟩
  have nn : ∀ p ∈ news, ((hideAll s.heap (news.map (·.1))).hide L).get? p.1 = none := fun p hp => by
    rw [Heap.hide_ne _ (N p hp).2.1]
    exact hideAll_none _ (List.mem_map_of_mem hp)
  refine wpAny_mono (h _ oL oL.slots s.heap.objs.size h₁ Z ⟨hns, fun b o e => hk₁ b o (of_hideAll _ (Heap.of_hide e)), Nat.le_of_eq (by rw [Heap.hide_size, hideAll_size])⟩
    (fun p hp => ?_) (fun p hp => (N p hp).2.1) (fun p hp => Heap.lt_size (N p hp).1) Z.x Z.t) (fun fl s' hl => ?_) fun _ _ y => y
  · rcases List.mem_cons.mp hp with rfl | hp
    · exact ⟨hk₁ _ _ hL, Nat.ne_of_lt (Heap.lt_size hL), Heap.hide_self _ _⟩
    · exact ⟨hk₁ _ _ (N p hp).1, Nat.ne_of_lt (Heap.lt_size (N p hp).1), nn p hp⟩
  · obtain ⟨L', m', sl, news', F', N', ne', k⟩ := hl
    refine k ⟨⟨_, es, ep, (N' _ List.mem_cons_self).1, hLd, hLk, hLf⟩, fun b o e => F'.keep b o (Z.st b o e), F.above⟩ fun p hp => ?_
    obtain ⟨a1, a2, a3⟩ := N' p (List.mem_cons_of_mem _ hp)
    refine ⟨a1, ne' p hp, ?_⟩
    cases q : h₀.get? p.1 with
    | none => rfl
    | some o => rw [Z.st _ _ q] at a3; cases a3
end
-- PART 59: catching over the ground that hides the law's frame
section
variable {w : World} {A : Around} {base g₀ : Heap} {env : Env} {L : Addr} {oL : Obj} {mean : ExcName → Option Value} {mg mb : Str → Option Value}
theorem caughtG (Z : Gd w A base g₀ env L oL mean mg mb) {g G : Heap} {L' a e C : Addr} {m : Str → Option Value} {name : Str} {scope : Scope} {cd : Value} {dd : Option Addr} {E : Value → Shared → Prop} {s' : Shared}
    {n : Str} {b₀ : Stmt} {suite : List Stmt} {pos np : Pos} {rest : List ExceptHandler} {Q : Flow → Shared → Prop} {news : Led} {x : Str}
    (T0 : KtsTurn ([env].filterMap (·.frame)) g₀ g) (K : Below A base [env] g) (D : KtsDicts ([env].filterMap (·.frame)) g) (R : RaisedD base G [envOf name scope L' a cd, env] e (.ref C) dd news s'.heap) (F : Fr g L' G m) (hsm : G.UpToSlots s'.heap)
    (ex : nsIn (Mine.hd.heap_39 w.params) mainGlobals x = some (some (.ref C))) (q : ktsIn (Mine.hd.heap_39 w.params) C "BaseException" = true)
    (k : ∀ h' oe ws tk sl, Fr (g₀.hide L) L' h' (fun y => if y = n then some (.ref e) else m y) → oe.cls = .ref C → oe.dict = dd → oe.data = .fields ws → News (g₀.hide L) L' h' ((L, lwO oL sl) :: (e, oe) :: news) → (∀ p ∈ (e, oe) :: news, p.1 ≠ L) →
      wpAny (model pw w) ((A.deeper (envOf name scope L' a cd)).mark (some (.ref e))) (execs (b₀ :: suite) (envOf name scope L' a cd))
        (fun f s₄ => wpAny (model pw w) (A.deeper (envOf name scope L' a cd)) (do bindName (envOf name scope L' a cd) n .none; unbindBehindTheSuite (envOf name scope L' a cd) n pos) (fun _ s₅ => Q f s₅) E s₄)
        (AsSuiteRaised (model pw w) ((A.deeper (envOf name scope L' a cd)).mark (some (.ref e))) (envOf name scope L' a cd) n pos (notedBy (model pw w) ((A.deeper (envOf name scope L' a cd)).mark (some (.ref e))) (envOf name scope L' a cd) (cameBackBy (model pw w) (A.deeper (envOf name scope L' a cd)) (envOf name scope L' a cd) E)))
        { s' with heap := h', toks := tk })
    (hk : scope.kind = .function := by rfl) (hlo : (envOf name scope L' a cd).kindOf n = some .local := by rfl) (hx : (envOf name scope L' a cd).kindOf x = some .globalImplicit := by rfl) (hd : (x == ("__debug__" : Str)) = false := by decide) :
    wpAny (model pw w) (A.deeper (envOf name scope L' a cd)) (noteFrame (.ref e) (envOf name scope L' a cd))
      (fun _ s₂ => wpAny (model pw w) (A.deeper (envOf name scope L' a cd)) (setFlight (.ref e) none) (fun _ s₃ =>
        wpAny (model pw w) (A.deeper (envOf name scope L' a cd)) (handleBy (.ref e) (envOf name scope L' a cd) (.ExceptHandler (some (.Name x np)) (some n) (b₀ :: suite) pos :: rest)) Q E s₃) E s₂) E s' := by
  refine caughtD R F K hsm Z.X Z.T D T0 ex q (fun h' g' oe ws tk T' F' c1 c2 c3 N' _ _ _ _ => ?_) hk hlo hx hd
  obtain ⟨F2, sl, N2, ne2⟩ := Z.back T' F' N'
  exact k h' oe ws tk sl F2 c1 c2 c3 N2 ne2
theorem ConE.useG (Z : Gd w A base g₀ env L oL mean mg mb) {f : Addr} {args : List Value} {D U : Nat} {l : Led} {Post : Value → Led → Prop} {Ref : Prop} (C : ConE w none f args D U l Post Ref)
    {dp un : Nat} {gd : Option (List Code)} {cn : Str} {cs : Scope} {a : Addr} {ccd : Value} {cl : List (Str × Addr)} {L' : Addr} {m : Str → Option Value} {s : Shared} {Q E : Value → Shared → Prop} {news : Led} {sl : Array (Option Value)}
    (F : Fr (g₀.hide L) L' s.heap m) (N : News (g₀.hide L) L' s.heap news) (hL : (L, lwO oL sl) ∈ news) (hs : ∀ p ∈ l, p ∈ news) (hne : ∀ p ∈ l, p.1 ≠ L) (hk : cs.kind = .function) (hdp : dp + D < 600) (hun : un + U < 9000)
    (ret : ∀ r h' tk' l' sl', Fr (g₀.hide L) L' h' m → News (g₀.hide L) L' h' ((L, lwO oL sl') :: l') → (∀ p ∈ l', p.1 ≠ L) → Post r l' → Q r { s with heap := h', toks := tk' })
    (exc : Ref → ∀ g G e d k u n h' tk', KtsTurn ([env].filterMap (·.frame)) g₀ g → Below A base [env] g → KtsDicts ([env].filterMap (·.frame)) g → Fr g L' G m → G.UpToSlots h' → RaisedD base G [envX cn cs L' a ccd cl, env] e (.ref 51) (some d) ((d, PySem.W.dictOf [ent w.params (Str.ofString "word") k (.str (Str.ofString "withdrawal") u)] n) :: l) h' → E (.ref e) { s with heap := h', toks := tk' }) :
    wpAny (model pw w) (atp none dp un gd cn cs L' a ccd cl [env]) (call (.ref f) args) Q E s := by
  obtain ⟨g, T, K, Fg, Ng, Xg, Tg, Dg⟩ := Z.to F N hL
  unfold ConE at C
  refine C mean mg mb dp un gd cn cs a ccd cl [env] A base g L' m s Q E K Fg Xg (Ng l hs hne) Tg hk hdp hun (fun r h' tk' l' F' N' P => ?_) fun hr G e d k u n h' tk' FG UG RG => exc hr g G e d k u n h' tk' T K Dg FG UG RG
  obtain ⟨F2, sl', N2, ne2⟩ := Z.back T F' N'
  exact ret r h' tk' l' sl' F2 N2 ne2 P
end
-- PART 60a: for over a range, by an invariant of the ledger
section
variable {prog : Program} {w : World} {A : Around} {E : Value → Shared → Prop} {Q : Flow → Shared → Prop} {s : Shared} {env : Env} {h₀ : Heap} {x : Str} {body : List Stmt}
abbrev TurnR (h₀ : Heap) (L : Addr) (s : Shared) (I : Addr) (oI : Obj) (st : List Str) (m₀ : Str → Option Value) (J : (Str → Option Value) → Led → Prop) (Q : Flow → Shared → Prop) : Flow → Shared → Prop :=
  UnrPost h₀ L s I oI (fun m' nx => LocOff st m₀ m' ∧ J m' nx) Q
theorem unr_mono1 {L I : Addr} {oI : Obj} {s₁ s₂ : Shared} {f : Flow} {R R' : (Str → Option Value) → Led → Prop} (h : UnrPost h₀ L s₁ I oI R Q f s₂) (hr : ∀ m' nx, (∀ p ∈ nx, p.1 ≠ I) → R m' nx → R' m' nx) : UnrPost h₀ L s₁ I oI R' Q f s₂ := by
  cases f with
  | ret v => exact h
  | brk => exact h
  | next =>
    obtain ⟨h', tk, m', nx, e, F, N, ho, r⟩ := h
    exact ⟨h', tk, m', nx, e, F, N, ho, hr m' nx ho r⟩
  | cont =>
    obtain ⟨h', tk, m', nx, e, F, N, ho, r⟩ := h
    exact ⟨h', tk, m', nx, e, F, N, ho, hr m' nx ho r⟩
theorem range_inv {I : Addr} {a : Int} {n : Nat} (st : List Str) (m₀ : Str → Option Value) (J : Nat → (Str → Option Value) → Led → Prop) (hx : st.contains x = true) :
    ∀ (k i : Nat) (m : Str → Option Value) (news : Led), LocOff st m₀ m → J i m news → (∀ p ∈ news, p.1 ≠ I) →
      (∀ j (u : Str → Option Value) nx oI t h tk, i ≤ j → j < i + k → LocOff st m₀ u → J j u nx → (∀ p ∈ nx, p.1 ≠ I) → oI = itR (a + ((j + 1 : Nat) : Int)) ((n : Int) - ((j + 1 : Nat) : Int)) → Fr h₀ env.locals h (fun y => if y = x then some (.int (a + (j : Int)) t) else u y) → News h₀ env.locals h ((I, oI) :: nx) →
        wpAny (model prog w) A (execs body env) (TurnR h₀ env.locals { s with heap := h, toks := tk } I oI st m₀ (J (j + 1)) Q) E { s with heap := h, toks := tk }) →
      (∀ (u : Str → Option Value) nx h tk, LocOff st m₀ u → J (i + k) u nx → (∀ p ∈ nx, p.1 ≠ I) → Fr h₀ env.locals h u → News h₀ env.locals h nx → Q .next { s with heap := h, toks := tk }) →
      RangeRest prog w A E h₀ env x body Q s I a n k i m news := by
  intro k
  induction k with
  | zero =>
    intro i m news hm hJ hI turn fin
    exact RangeRest.zero fun h tk F N => fin m news h tk hm hJ hI F N
  | succ k ih =>
    intro i m news hm hJ hI turn fin
    refine RangeRest.succ fun t h tk F N => ?_
    refine wpAny_mono (turn i m news _ t h tk (Nat.le_refl _) (by omega) hm hJ hI rfl F N) (fun f s₃ p => ?_) fun _ _ e => e
    refine unr_mono1 p fun m' nx ho ⟨q1, q2⟩ => ih (i + 1) m' nx q1 q2 ho (fun j u nx oI t h tk l1 l2 => turn j u nx oI t h tk (by omega) (by omega)) fun u nx h tk e2 e3 => ?_
    have e : i + 1 + k = i + (k + 1) := by omega
    rw [e] at e3
    exact fin u nx h tk e2 e3
def RgAt (prog : Program) (w : World) (A : Around) (E : Value → Shared → Prop) (Q : Flow → Shared → Prop) (env : Env) (h₀ : Heap) (x : Str) (body : List Stmt) (st : List Str) (m₀ : Str → Option Value) (xv : Value) (s₁ : Shared) : Prop :=
  ∃ (r : Addr) (b : Int) (t u v : Tok) (n : Nat) (news : Led) (J : Nat → (Str → Option Value) → Led → Prop), xv = .ref r ∧ A.handled = none ∧ IsRange s₁.heap r 0 b 1 t u v ∧ b = (n : Int) ∧ n < 1000 ∧ Fr h₀ env.locals s₁.heap m₀ ∧ News h₀ env.locals s₁.heap news ∧ J 0 m₀ news ∧
      (∀ j (u : Str → Option Value) nx I oI t h tk, j < n → LocOff st m₀ u → J j u nx → (∀ p ∈ nx, p.1 ≠ I) → (∀ p ∈ news, p.1 < I) → Fr h₀ env.locals h (fun y => if y = x then some (.int ((j : Int)) t) else u y) → News h₀ env.locals h ((I, oI) :: nx) →
        wpAny (model prog w) A (execs body env) (TurnR h₀ env.locals { s₁ with heap := h, toks := tk } I oI st m₀ (J (j + 1)) Q) E { s₁ with heap := h, toks := tk }) ∧
      (∀ (u : Str → Option Value) nx h tk, LocOff st m₀ u → J n u nx → Fr h₀ env.locals h u → News h₀ env.locals h nx → Q .next { s₁ with heap := h, toks := tk })
theorem For_rangeL {iter : Expr} {px pos : Pos} {m₀ : Str → Option Value} (st : List Str) (F₀ : Fr h₀ env.locals s.heap m₀) (hx : env.kindOf x = some .local)
    (hp : (env.scope.kind == .class || (env.scope.kind == .module && env.locals != env.globals)) = false) (hst : st.contains x = true)
    (h : wpAny (model prog w) A (eval iter env) (RgAt prog w A E Q env h₀ x body st m₀) E s)
    (hs : ∀ x, foldedSetIterable iter env x = pure x := by intro _; rfl)
    (hE : PassesOwn (model prog w) A env E := by passes_own) :
    wpAny (model prog w) A (exec (.For (.Name x px) iter body [] pos) env) Q E s := by
  refine For_invVF F₀ hx hp (wpAny_mono h (fun xv s₁ h₁ => ?_) fun _ _ e => e) hs hE
  obtain ⟨r, b, t, u, v, n, news, J, rfl, hh, hr, rfl, hn, F, N, hJ, turn, fin⟩ := h₁
  have hsm : Builtin.Range.small 0 (n : Int) 1 = true := small_one (by decide) (by decide) (by omega) (by omega)
  have hsz : Builtin.Range.rangeSize 0 (n : Int) 1 = (n : Int) := by
    unfold Builtin.Range.rangeSize
    rw [if_pos (by decide)]
    by_cases h0 : (0 : Int) < n
    · rw [if_pos h0]; omega
    · rw [if_neg h0]; omega
  refine iter_rangeUnr hh hr hsm hsz F N fun I hI => ?_
  refine range_inv st m₀ J hst n 0 m₀ news (fun _ _ => rfl) hJ (fun p hp => Nat.ne_of_lt (hI p hp)) (fun j u nx oI t h tk l1 l2 e2 e3 e4 e5 e6 e7 => ?_) fun u nx h tk e2 e3 e4 => ?_
  · rw [Int.zero_add] at e6
    exact turn j u nx I oI t h tk (by omega) e2 e3 e4 hI e6 e7
  · rw [Nat.zero_add] at e3
    exact fin u nx h tk e2 e3
end
-- PART 60b: gifts in their order, as contents
open Classical in
noncomputable def stepN (p : List (Int × Ct) × Nat) (g : Int × Int) : List (Int × Ct) × Nat := if giv p.1 g.1 g.2 then (updC p.1 g.1 (addC g.2), p.2) else (p.1, p.2 + 1)
noncomputable def runN (cs : List (Int × Ct)) (gs : List (Int × Int)) : List (Int × Ct) × Nat := gs.foldl stepN (cs, 0)
theorem runN_take {cs : List (Int × Ct)} {gs : List (Int × Int)} {i : Nat} {g : Int × Int} (h : gs[i]? = some g) : runN cs (gs.take (i + 1)) = stepN (runN cs (gs.take i)) g := by
  unfold runN
  rw [List.take_add_one, h, Option.toList_some, List.foldl_append]
  rfl
theorem giv_taken {accs : List Acc} {home amt : Int} : giv (cont accs) home amt ↔ taken accs home amt := by
  unfold giv taken sumOf totOf cont
  rw [List.map_map]
  have e : ((fun x : Int × Ct => x.2.bal) ∘ fun x : Acc => (x.k, x.ct)) = fun x : Acc => x.bal := rfl
  rw [e]
  constructor
  · rintro ⟨a, b, c, d, e⟩; exact ⟨c, d, a, b, e⟩
  · rintro ⟨a, b, c, d, e⟩; exact ⟨c, d, a, b, e⟩
theorem updC_congr {cs : List (Int × Ct)} {k : Int} {f g : Ct → Ct} (hn : (cs.map (·.1)).Nodup) (h : f ((ctAt cs k).getD noCt) = g ((ctAt cs k).getD noCt)) : updC cs k f = updC cs k g := by
  unfold updC
  cases hc : ctAt cs k with
  | none => rw [hc] at h; simp only [Option.isSome_none, Bool.false_eq_true, if_false]; rw [show f noCt = g noCt from h]
  | some c =>
    rw [hc] at h
    simp only [Option.isSome_some, if_true]
    refine List.map_congr_left fun z hz => ?_
    by_cases e : z.1 = k
    · rw [if_pos e, if_pos e, ct_uniq hn hc z hz e, show f c = g c from h]
    · rw [if_neg e, if_neg e]
theorem cont_nd {w : World} {V : StV} {rest : Led} (H : WF w V rest) : ((cont V.accs).map (·.1)).Nodup := by
  have := keys_nd H
  unfold cont
  rw [List.map_map]
  exact this
theorem balAt_ct (accs : List Acc) (k : Int) : balAt accs k = ((ctAt (cont accs) k).getD noCt).bal := by
  rw [ctAt_cont]
  unfold balAt
  cases accAt accs k <;> rfl
theorem ctAt_upd (cs : List (Int × Ct)) (k j : Int) (f : Ct → Ct) : ctAt (updC cs k f) j = if j = k then some (f ((ctAt cs k).getD noCt)) else ctAt cs j := by
  have hm : ∀ l : List (Int × Ct), ctAt (l.map fun x => if x.1 = k then (k, f x.2) else x) j = if j = k then (ctAt l k).map f else ctAt l j := by
    intro l
    induction l with
    | nil => simp [ctAt]
    | cons x r ih =>
      obtain ⟨y, c⟩ := x
      rw [List.map_cons]
      by_cases e : y = k
      · subst e
        rw [if_pos rfl, ctAt_cons, ih, ctAt_cons, ctAt_cons]
        by_cases q : j = y
        · subst q; simp
        · have q' : ¬ y = j := fun z => q z.symm
          simp [q, q']
      · rw [if_neg e, ctAt_cons, ih, ctAt_cons, ctAt_cons]
        by_cases q : y = j
        · have : ¬ j = k := fun z => e (q.trans z)
          simp [q, this]
        · simp [q, e]
  unfold updC
  cases hc : ctAt cs k with
  | some c =>
    simp only [Option.isSome_some, if_true]
    rw [hm, hc]; rfl
  | none =>
    simp only [Option.isSome_none, Bool.false_eq_true, if_false]
    have ha : ∀ l : List (Int × Ct), ctAt (l ++ [(k, f noCt)]) j = (ctAt l j).or (if k = j then some (f noCt) else none) := by
      intro l
      induction l with
      | nil => rw [List.nil_append, ctAt_cons]; simp [ctAt]
      | cons x r ih =>
        obtain ⟨y, c⟩ := x
        rw [List.cons_append, ctAt_cons, ih, ctAt_cons]
        by_cases e : y = j <;> simp [e]
    rw [ha]
    by_cases q : j = k
    · subst q; rw [hc]; simp
    · have q' : ¬ k = j := fun z => q z.symm
      simp [q, q']
theorem tchd_mem (ts : List Int) (k : Int) : k ∈ tchd ts k := by
  unfold tchd; split <;> simp_all
theorem tchd_sub {ts : List Int} {k j : Int} (h : j ∈ ts) : j ∈ tchd ts k := by
  unfold tchd; split <;> simp_all
theorem filt_ne {cs : List (Int × Ct)} {k : Int} (h : ctAt cs k = none) : cs.filter (fun z => decide (z.1 ≠ k)) = cs := by
  refine List.filter_eq_self.mpr fun z hz => ?_
  unfold ctAt at h
  have := List.find?_eq_none.mp (Option.map_eq_none_iff.mp h) z hz
  simpa using this
theorem undo_bal {cs : List (Int × Ct)} {ts : List Int} {k b : Int} {f : Ct → Ct} (hn : (cs.map (·.1)).Nodup) (hf : ∀ c, f c = { c with bal := b }) :
    Undo (updC cs k f, tchd ts k) ((if (ctAt cs k).isSome then [] else [.made k]) ++ (if k ∈ ts then [] else [.tch k]) ++ [.bal k ((ctAt cs k).getD noCt).bal]) (cs, ts) := by
  have hk : (ctAt (updC cs k f) k).isSome = true := by rw [ctAt_upd, if_pos rfl]; rfl
  refine .snoc hk ?_
  have e1 : (updC cs k f).map (fun z => if z.1 = k then (k, { z.2 with bal := ((ctAt cs k).getD noCt).bal }) else z) = if (ctAt cs k).isSome then cs else cs ++ [(k, noCt)] := by
    unfold updC
    cases hc : ctAt cs k with
    | some c =>
      simp only [Option.isSome_some, if_true, List.map_map]
      refine (List.map_congr_left fun z hz => ?_).trans (List.map_id _)
      show (if _ then _ else _) = z
      by_cases e : z.1 = k
      · have hz2 := ct_uniq hn hc z hz e
        simp only [Function.comp_apply, if_pos e, if_true, hf]
        obtain ⟨y, d⟩ := z
        simp only at e hz2
        subst e hz2
        rfl
      · simp [e]
    | none =>
      simp only [Option.isSome_none, Bool.false_eq_true, if_false, List.map_append, List.map_cons, List.map_nil, if_true, hf]
      have : cs.map (fun z => if z.1 = k then (k, { z.2 with bal := ((none : Option Ct).getD noCt).bal }) else z) = cs := by
        refine (List.map_congr_left fun z hz => ?_).trans (List.map_id _)
        have h2 := filt_ne hc
        have h3 := List.filter_eq_self.mp h2 z hz
        have h4 : z.1 ≠ k := by simpa using h3
        rw [if_neg h4]; rfl
      rw [this]; rfl
  have step1 : undo1 (updC cs k f, tchd ts k) (.bal k ((ctAt cs k).getD noCt).bal) = (if (ctAt cs k).isSome then cs else cs ++ [(k, noCt)], tchd ts k) := by
    show (_, _) = _
    rw [e1]
  rw [step1]
  have fin : ∀ t : List Int, t = ts → Undo (if (ctAt cs k).isSome then cs else cs ++ [(k, noCt)], t) (if (ctAt cs k).isSome then [] else [.made k]) (cs, ts) := by
    intro t ht
    subst ht
    cases hc : ctAt cs k with
    | some c => simp only [Option.isSome_some, if_true]; exact .nil
    | none =>
      simp only [Option.isSome_none, Bool.false_eq_true, if_false]
      refine Undo.snoc (os := []) (show (ctAt _ k).isSome = true from ?_) ?_
      · have := ctAt_upd cs k k (fun c => c)
        unfold updC at this
        rw [hc] at this
        simp only [Option.isSome_none, Bool.false_eq_true, if_false, if_true] at this
        rw [this]; rfl
      · have : undo1 (cs ++ [(k, noCt)], t) (.made k) = (cs, t) := by
          show (List.filter _ _, _) = _
          rw [List.filter_append, filt_ne hc]
          simp
        rw [this]; exact .nil
  by_cases ht : k ∈ ts
  · rw [if_pos ht, List.append_nil]
    exact fin _ (by unfold tchd; rw [if_pos ht])
  · rw [if_neg ht]
    refine .snoc (tchd_mem ts k) ?_
    refine fin _ ?_
    show List.filter _ _ = _
    unfold tchd
    rw [if_neg ht, List.filter_append, List.filter_eq_self.mpr fun z hz => ?_]
    · simp
    · simp only [ne_eq, decide_not, Bool.not_eq_eq_eq_not, Bool.not_true, decide_eq_false_iff_not]
      exact fun q => ht (q ▸ hz)
structure Inv (V0 V : StV) (gs : List (Int × Int)) (i : Nat) : Prop where
  st : V.st = V0.st
  run : cont V.accs = (runN (cont V0.accs) (gs.take i)).1
  undo : ∃ os, RowsAre V.rows os ∧ Undo (cont V.accs, V.touched) os (cont V0.accs, V0.touched)
  na : V.accs.length ≤ V0.accs.length + i
  nt : V.touched.length ≤ V0.touched.length + i
  nr : V.rows.length ≤ 3 * i
  nn : ∀ x ∈ V.accs, 0 ≤ x.bal
  em : ∀ z ∈ cont V.accs, z.2.emp = true → z.1 ∈ V.touched
theorem Inv.zero {V0 : StV} {gs : List (Int × Int)} (hr : V0.rows = []) (hn : ∀ x ∈ V0.accs, 0 ≤ x.bal) (he : ∀ z ∈ cont V0.accs, z.2.emp = false) : Inv V0 V0 gs 0 :=
  ⟨rfl, by rw [List.take_zero]; rfl, ⟨[], by rw [hr]; exact .nil, .nil⟩, Nat.le_refl _, Nat.le_refl _, by rw [hr]; exact Nat.le_refl _, hn, fun z hz e => by rw [he z hz] at e; cases e⟩
theorem Inv.skip {V0 V : StV} {gs : List (Int × Int)} {i : Nat} {home amt : Int} (I : Inv V0 V gs i) (hg : gs[i]? = some (home, amt)) (h : ¬ giv (cont V.accs) home amt) : Inv V0 V gs (i + 1) ∧ (runN (cont V0.accs) (gs.take (i + 1))).2 = (runN (cont V0.accs) (gs.take i)).2 + 1 := by
  have e : runN (cont V0.accs) (gs.take (i + 1)) = ((runN (cont V0.accs) (gs.take i)).1, (runN (cont V0.accs) (gs.take i)).2 + 1) := by
    rw [runN_take hg]; unfold stepN; rw [← I.run, if_neg h]
  exact ⟨⟨I.st, by rw [e]; exact I.run, I.undo, Nat.le_succ_of_le I.na, Nat.le_succ_of_le I.nt, Nat.le_trans I.nr (by omega), I.nn, I.em⟩, by rw [e]⟩
theorem mem_upd {cs : List (Int × Ct)} {k : Int} {f : Ct → Ct} {z : Int × Ct} (hn : (cs.map (·.1)).Nodup) (h : z ∈ updC cs k f) : (z.1 = k ∧ z.2 = f ((ctAt cs k).getD noCt)) ∨ (z.1 ≠ k ∧ z ∈ cs) := by
  unfold updC at h
  cases hc : ctAt cs k with
  | some c =>
    rw [hc] at h
    simp only [Option.isSome_some, if_true] at h
    obtain ⟨y, hy, e⟩ := List.mem_map.mp h
    by_cases q : y.1 = k
    · rw [if_pos q] at e
      subst e
      exact .inl ⟨rfl, by rw [ct_uniq hn hc y hy q]; rfl⟩
    · rw [if_neg q] at e
      subst e
      exact .inr ⟨q, hy⟩
  | none =>
    rw [hc] at h
    simp only [Option.isSome_none, Bool.false_eq_true, if_false] at h
    rcases List.mem_append.mp h with h | h
    · have h2 := filt_ne hc
      have h3 := List.filter_eq_self.mp h2 z h
      exact .inr ⟨by simpa using h3, h⟩
    · rw [List.mem_singleton.mp h]; exact .inl ⟨rfl, rfl⟩
theorem acc_cont {accs : List Acc} {x : Acc} (h : x ∈ accs) : (x.k, x.ct) ∈ cont accs := List.mem_map.mpr ⟨x, h, rfl⟩
theorem opsOf_cont (accs : List Acc) (ts : List Int) (k b : Int) : opsOf accs ts k (some (.bal k b)) = (if (ctAt (cont accs) k).isSome then [] else [.made k]) ++ (if k ∈ ts then [] else [.tch k]) ++ [.bal k b] := by
  unfold opsOf
  rw [ctAt_cont, Option.isSome_map]
  rfl
theorem Inv.take {w : World} {V0 V : StV} {gs : List (Int × Int)} {i : Nat} {home amt : Int} {rest l' : Led} {r : Value} (H : WF w V rest) (I : Inv V0 V gs i) (hg : gs[i]? = some (home, amt)) (tk : taken V.accs home amt)
    (P : UpPost w V rest home (fun c => { c with bal := balAt V.accs home + amt * 1000000000 }) (some (.bal home (balAt V.accs home))) r l') :
    ∃ V', r = .none ∧ l' = stL w.params V' rest ∧ WF w V' rest ∧ Inv V0 V' gs (i + 1) ∧ cont V'.accs = updC (cont V.accs) home (addC amt) ∧ (runN (cont V0.accs) (gs.take (i + 1))).2 = (runN (cont V0.accs) (gs.take i)).2 := by
  obtain ⟨accs, rs, oa, ot, nj, h1, h2, h3, h4, h5, h6⟩ := P
  have hnd := cont_nd H
  have h4' : cont accs = updC (cont V.accs) home (addC amt) := by
    rw [h4]
    refine updC_congr hnd ?_
    rw [balAt_ct]
    rfl
  have hgv := giv_taken.mpr tk
  have e : runN (cont V0.accs) (gs.take (i + 1)) = (updC (cont V.accs) home (addC amt), (runN (cont V0.accs) (gs.take i)).2) := by
    rw [runN_take hg]; unfold stepN; rw [← I.run, if_pos hgv]
  have hbal := balAt_le I.nn home
  refine ⟨_, h1, h2, h3, ⟨I.st, by rw [e]; exact h4', ?_, ?_, ?_, ?_, ?_, ?_⟩, h4', by rw [e]⟩
  · obtain ⟨os, r1, r2⟩ := I.undo
    have r3 : RowsAre rs (opsOf V.accs V.touched home (some (.bal home (balAt V.accs home)))) := h6
    refine ⟨_, r1.append r3, ?_⟩
    refine Undo.trans ?_ r2
    rw [opsOf_cont, balAt_ct]
    show Undo (cont accs, tchd V.touched home) _ _
    rw [h4]
    exact undo_bal hnd fun c => rfl
  · have hl : accs.length = (cont accs).length := by unfold cont; rw [List.length_map]
    have hl2 : V.accs.length = (cont V.accs).length := by unfold cont; rw [List.length_map]
    have := I.na
    show accs.length ≤ _
    rw [hl, h4]
    unfold updC
    split
    · rw [List.length_map]; omega
    · rw [List.length_append]; simp; omega
  · have := I.nt
    show (tchd V.touched home).length ≤ _
    unfold tchd
    split
    · omega
    · rw [List.length_append]; simp; omega
  · have := I.nr
    show (V.rows ++ rs).length ≤ _
    rw [List.length_append]; omega
  · intro x hx
    have hx' : x ∈ accs := hx
    have hm := acc_cont hx'
    rw [h4'] at hm
    rcases mem_upd hnd hm with ⟨-, q⟩ | ⟨-, q⟩
    · have q2 : x.bal = ((ctAt (cont V.accs) home).getD noCt).bal + amt * 1000000000 := congrArg Ct.bal q
      rw [← balAt_ct] at q2
      obtain ⟨t1, -⟩ := tk
      omega
    · obtain ⟨y, hy, e⟩ := List.mem_map.mp q
      have e2 : y.bal = x.bal := congrArg (fun z : Int × Ct => z.2.bal) e
      have := I.nn y hy
      omega
  · intro z hz he
    have hz' : z ∈ updC (cont V.accs) home (addC amt) := by rw [← h4']; exact hz
    show z.1 ∈ tchd V.touched home
    rcases mem_upd hnd hz' with ⟨q, -⟩ | ⟨-, q⟩
    · rw [q]; exact tchd_mem _ _
    · exact tchd_sub (I.em z q he)
-- PART 61: all taken in one order: all taken in the other, to the same contents
def Same (a b : List (Int × Ct)) : Prop := ∀ k, ctAt a k = ctAt b k
abbrev updG (c : List (Int × Ct)) (g : Int × Int) : List (Int × Ct) := updC c g.1 (addC g.2)
theorem upd_nd {cs : List (Int × Ct)} {k : Int} {f : Ct → Ct} (hn : (cs.map (·.1)).Nodup) : ((updC cs k f).map (·.1)).Nodup := by
  unfold updC
  cases hc : ctAt cs k with
  | some c =>
    simp only [Option.isSome_some, if_true, List.map_map]
    have e : cs.map ((fun x => x.1) ∘ fun x : Int × Ct => if x.1 = k then (k, f x.2) else x) = cs.map (·.1) := List.map_congr_left fun z _ => by
      by_cases q : z.1 = k
      · simp [q]
      · simp [q]
    rw [e]; exact hn
  | none =>
    simp only [Option.isSome_none, Bool.false_eq_true, if_false, List.map_append, List.map_cons, List.map_nil]
    rw [List.nodup_append]
    refine ⟨hn, by simp, fun a ha b hb => ?_⟩
    rw [List.mem_singleton.mp hb]
    obtain ⟨z, hz, rfl⟩ := List.mem_map.mp ha
    have h3 := List.filter_eq_self.mp (filt_ne hc) z hz
    simpa using h3
theorem sum_upd {cs : List (Int × Ct)} {k a : Int} (hn : (cs.map (·.1)).Nodup) : sumOf (updC cs k (addC a)) = sumOf cs + a * 1000000000 := by
  have hm : ∀ l : List (Int × Ct), (l.map (·.1)).Nodup → sumOf (l.map fun x => if x.1 = k then (k, addC a x.2) else x) = sumOf l + if (ctAt l k).isSome then a * 1000000000 else 0 := by
    intro l
    induction l with
    | nil => intro _; simp [sumOf, ctAt]
    | cons z r ih =>
      intro hl
      rw [List.map_cons, List.nodup_cons] at hl
      have ih2 := ih hl.2
      obtain ⟨y, c⟩ := z
      rw [List.map_cons, ctAt_cons]
      unfold sumOf at ih2 ⊢
      rw [List.map_cons, List.sum_cons, ih2, List.map_cons, List.sum_cons]
      by_cases q : y = k
      · subst q
        have hr : ctAt r y = none := by
          unfold ctAt
          rw [Option.map_eq_none_iff, List.find?_eq_none]
          intro z hz e
          exact hl.1 (List.mem_map.mpr ⟨z, hz, by simpa using e⟩)
        rw [hr]
        simp [addC]
        omega
      · simp [q]
        omega
  unfold updC
  cases hc : ctAt cs k with
  | some c =>
    simp only [Option.isSome_some, if_true]
    rw [hm cs hn, hc]; rfl
  | none =>
    simp only [Option.isSome_none, Bool.false_eq_true, if_false]
    unfold sumOf
    rw [List.map_append, List.sum_append]
    simp [addC, noCt]
theorem same_upd {a b : List (Int × Ct)} {k : Int} {f : Ct → Ct} (h : Same a b) : Same (updC a k f) (updC b k f) := fun j => by
  rw [ctAt_upd, ctAt_upd, h k, h j]
theorem upd_comm (cs : List (Int × Ct)) (x y : Int × Int) : Same (updG (updG cs x) y) (updG (updG cs y) x) := fun j => by
  simp only [updG, ctAt_upd]
  by_cases e1 : j = y.1
  · by_cases e2 : j = x.1
    · have e3 : y.1 = x.1 := e1.symm.trans e2
      rw [if_pos e1, if_pos e2, if_pos e3, if_pos e3.symm, e3]
      simp [addC]; omega
    · have e3 : ¬ y.1 = x.1 := fun q => e2 (e1.trans q)
      rw [if_pos e1, if_neg e2, if_neg e3, if_pos e1]
  · by_cases e2 : j = x.1
    · have e3 : ¬ x.1 = y.1 := fun q => e1 (e2.trans q)
      rw [if_neg e1, if_pos e2, if_pos e2, if_neg e3]
    · rw [if_neg e1, if_neg e2, if_neg e2, if_neg e1]
theorem fold_same {gs : List (Int × Int)} : ∀ {a b : List (Int × Ct)}, Same a b → Same (gs.foldl updG a) (gs.foldl updG b) := by
  induction gs with
  | nil => intro a b h; exact h
  | cons g r ih => intro a b h; exact ih (same_upd h)
theorem fold_perm {gs gs' : List (Int × Int)} (p : gs.Perm gs') : ∀ cs : List (Int × Ct), Same (gs.foldl updG cs) (gs'.foldl updG cs) := by
  induction p with
  | nil => intro cs k; rfl
  | cons g _ ih => intro cs; exact ih _
  | swap x y l => intro cs; exact fold_same (upd_comm cs y x)
  | trans _ _ i1 i2 => intro cs k; exact (i1 cs k).trans (i2 cs k)
theorem step_ge (gs : List (Int × Int)) : ∀ p : List (Int × Ct) × Nat, p.2 ≤ (gs.foldl stepN p).2 := by
  induction gs with
  | nil => intro p; exact Nat.le_refl _
  | cons g r ih =>
    intro p
    rw [List.foldl_cons]
    refine Nat.le_trans ?_ (ih _)
    unfold stepN
    split <;> simp
def okG (g : Int × Int) : Prop := 0 ≤ g.1 ∧ g.1 < 2 ^ 160 ∧ 0 ≤ g.2 ∧ g.2 < 2 ^ 64
def amtOf (gs : List (Int × Int)) : Int := (gs.map (·.2)).sum
theorem amt_nn {gs : List (Int × Int)} (h : ∀ g ∈ gs, okG g) : 0 ≤ amtOf gs := by
  induction gs with
  | nil => exact Int.le_refl _
  | cons g r ih =>
    have h1 := (h g (.head _)).2.2.1
    have h2 := ih fun x hx => h x (.tail _ hx)
    unfold amtOf at h2 ⊢
    rw [List.map_cons, List.sum_cons]; omega
theorem all_iff (gs : List (Int × Int)) : ∀ (cs : List (Int × Ct)) (n : Nat), (cs.map (·.1)).Nodup →
    (((gs.foldl stepN (cs, n)).2 = n → (gs.foldl stepN (cs, n)).1 = gs.foldl updG cs ∧ (∀ g ∈ gs, okG g) ∧ (gs ≠ [] → sumOf cs + amtOf gs * 1000000000 < 2 ^ 256)) ∧
     ((∀ g ∈ gs, okG g) → (gs ≠ [] → sumOf cs + amtOf gs * 1000000000 < 2 ^ 256) → (gs.foldl stepN (cs, n)).2 = n)) := by
  induction gs with
  | nil => intro cs n hn; exact ⟨fun _ => ⟨rfl, fun g hg => (List.not_mem_nil hg).elim, fun q => absurd rfl q⟩, fun _ _ => rfl⟩
  | cons g r ih =>
    intro cs n hn
    have ea : amtOf (g :: r) = g.2 + amtOf r := by unfold amtOf; rw [List.map_cons, List.sum_cons]
    by_cases hg : giv cs g.1 g.2
    · have e : (g :: r).foldl stepN (cs, n) = r.foldl stepN (updG cs g, n) := by
        rw [List.foldl_cons]; unfold stepN; rw [if_pos hg]
      have hs : sumOf (updG cs g) = sumOf cs + g.2 * 1000000000 := sum_upd hn
      obtain ⟨i1, i2⟩ := ih (updG cs g) n (upd_nd hn)
      obtain ⟨g1, g2, g3, g4, g5⟩ := hg
      rw [e]
      refine ⟨fun h => ?_, fun h1 h2 => ?_⟩
      · obtain ⟨a, b, c⟩ := i1 h
        refine ⟨a, fun x hx => ?_, fun _ => ?_⟩
        · rcases List.mem_cons.mp hx with rfl | hx
          · exact ⟨g1, g2, g3, g4⟩
          · exact b x hx
        · by_cases hr : r = []
          · subst hr
            have : amtOf ([] : List (Int × Int)) = 0 := rfl
            rw [ea, this]; omega
          · have := c hr
            rw [hs] at this
            rw [ea]; omega
      · refine i2 (fun x hx => h1 x (.tail _ hx)) fun _ => ?_
        have := h2 (by simp)
        rw [ea] at this
        rw [hs]; omega
    · have e : (g :: r).foldl stepN (cs, n) = r.foldl stepN (cs, n + 1) := by
        rw [List.foldl_cons]; unfold stepN; rw [if_neg hg]
      have hge := step_ge r (cs, n + 1)
      rw [e]
      refine ⟨fun h => ?_, fun h1 h2 => ?_⟩
      · rw [h] at hge
        exact absurd hge (Nat.not_succ_le_self n)
      · exfalso
        refine hg ?_
        obtain ⟨a1, a2, a3, a4⟩ := h1 g (.head _)
        have h3 := h2 (by simp)
        have h4 := amt_nn fun x hx => h1 x (.tail _ hx)
        rw [ea] at h3
        exact ⟨a1, a2, a3, a4, by omega⟩
theorem sum_perm {a b : List Int} (p : a.Perm b) : a.sum = b.sum := by
  induction p with
  | nil => rfl
  | cons x _ ih => rw [List.sum_cons, List.sum_cons, ih]
  | swap x y l => simp only [List.sum_cons]; omega
  | trans _ _ i1 i2 => exact i1.trans i2
theorem turn_law {cs : List (Int × Ct)} {gs gs' : List (Int × Int)} (hn : (cs.map (·.1)).Nodup) (p : gs.Perm gs') (h : (runN cs gs).2 = 0) : (runN cs gs').2 = 0 ∧ Same (runN cs gs').1 (runN cs gs).1 := by
  obtain ⟨a, b, c⟩ := (all_iff gs cs 0 hn).1 h
  have e : amtOf gs' = amtOf gs := by unfold amtOf; exact (sum_perm (p.map fun g => g.2)).symm
  have h2 : (runN cs gs').2 = 0 := (all_iff gs' cs 0 hn).2 (fun g hg => b g (p.mem_iff.mpr hg)) fun q => by
    rw [e]
    exact c fun z => by subst z; exact q p.nil_eq.symm
  refine ⟨h2, fun k => ?_⟩
  have h3 := ((all_iff gs' cs 0 hn).1 h2).1
  show ctAt (gs'.foldl stepN (cs, 0)).1 k = ctAt (gs.foldl stepN (cs, 0)).1 k
  rw [h3, a]
  exact fold_perm p.symm cs k
theorem fold_nd {gs : List (Int × Int)} : ∀ {cs : List (Int × Ct)} {n : Nat}, (cs.map (·.1)).Nodup → ((gs.foldl stepN (cs, n)).1.map (·.1)).Nodup := by
  induction gs with
  | nil => intro cs n h; exact h
  | cons g r ih =>
    intro cs n h
    rw [List.foldl_cons]
    unfold stepN
    split
    · exact ih (upd_nd h)
    · exact ih h
theorem mem_keys {cs : List (Int × Ct)} {k : Int} : k ∈ cs.map (·.1) ↔ (ctAt cs k).isSome = true := by
  constructor
  · intro h
    cases hc : ctAt cs k with
    | some c => rfl
    | none =>
      obtain ⟨z, hz, e⟩ := List.mem_map.mp h
      have h3 := List.filter_eq_self.mp (filt_ne hc) z hz
      exact absurd e (by simpa using h3)
  · intro h
    obtain ⟨c, hc⟩ := Option.isSome_iff_exists.mp h
    unfold ctAt at hc
    obtain ⟨z, hz, -⟩ := Option.map_eq_some_iff.mp hc
    exact List.mem_map.mpr ⟨z, List.mem_of_find?_eq_some hz, by simpa using List.find?_some hz⟩
theorem same_len {a b : List (Int × Ct)} (ha : (a.map (·.1)).Nodup) (hb : (b.map (·.1)).Nodup) (h : Same a b) : a.length = b.length := by
  have p : (a.map (·.1)).Perm (b.map (·.1)) := (List.perm_ext_iff_of_nodup ha hb).mpr fun k => by rw [mem_keys, mem_keys, h k]
  have := p.length_eq
  rwa [List.length_map, List.length_map] at this
-- PART 62: two books of the same contents are not unequal
section
variable {w : World} {A : Around} {s : Shared} {h₀ : Heap} {L : Addr} {news R : Led}
theorem BkE.tup {v : Value} {c : Ct} (e : BkE w R v c) (N : News h₀ L s.heap news) (hR : ∀ p ∈ R, p ∈ news) : Tup4 w s.heap v c := by
  obtain ⟨U, t1, t2, t3, d, oD, tD, rfl, m2, m3, hoD, hdn⟩ := e
  exact ⟨U, t1, t2, t3, d, rfl, tup_at N (hR _ m2), hdn, tD, Heap.dictOf_iff.mpr ⟨_, (N _ (hR _ m3)).1, hoD⟩⟩
theorem hits_books {kb ka : List (Int × Value)} {cb ca : List (Int × Ct)} (N : News h₀ L s.heap news) (hR : ∀ p ∈ R, p ∈ news) (Bb : Bk w R kb cb) (hu : A.units + 2 < cLine) (Ba : Bk w R ka ca) (hc : ∀ z ∈ ca, ctAt cb z.1 = some z.2) : KeqHits A s kb ka true := by
  induction Ba with
  | nil => exact .nil
  | @cons k v c r s' e b ih =>
    have hk := hc (k, c) (.head _)
    have ih2 := ih fun z hz => hc z (.tail _ hz)
    rcases Bb.at k with ⟨-, q⟩ | ⟨y, c', h1, h2, e'⟩
    · rw [q] at hk; cases hk
    · rw [h2] at hk
      cases hk
      exact .hit (y := y) (e := true) (b := true) h1 (eqat_tup4 (e.tup N hR) (e'.tup N hR) hu) ih2
theorem ct_mem {cs : List (Int × Ct)} (hn : (cs.map (·.1)).Nodup) {z : Int × Ct} (hz : z ∈ cs) : ctAt cs z.1 = some z.2 := by
  cases hc : ctAt cs z.1 with
  | none =>
    have h3 := List.filter_eq_self.mp (filt_ne hc) z hz
    simp at h3
  | some c => rw [ct_uniq hn hc z hz rfl]
theorem ne_books {E Q : Value → Shared → Prop} {a b : Addr} {oa ob : Obj} {ka kb : List (Int × Value)} {ca cb : List (Int × Ct)} (N : News h₀ L s.heap news) (pa : (a, oa) ∈ news) (pb : (b, ob) ∈ news) (da : oa.IsDictOf (PySem.intKind pw w) ka) (db : ob.IsDictOf (PySem.intKind pw w) kb)
    (la : (a == sysModules) = false) (lb : (b == sysModules) = false) (hu : A.units + 4 < cLine) (hR : ∀ p ∈ R, p ∈ news) (Ba : Bk w R ka ca) (Bb : Bk w R kb cb) (hs : Same ca cb) (h : Q (.bool false) s) :
    wpAny (model pw w) A (compareOp .NotEq (.ref a) (.ref b)) Q E s := by
  have na : (ca.map (·.1)).Nodup := by rw [← Ba.keys]; exact kvs_nodup da
  have nb : (cb.map (·.1)).Nodup := by rw [← Bb.keys]; exact kvs_nodup db
  have hl : ka.length = kb.length := by rw [Ba.len, Bb.len]; exact same_len na nb hs
  refine keq_ne (knd := PySem.intKind pw w) la lb (Heap.dictOf_iff.mpr ⟨_, (N _ pa).1, da⟩) (Heap.dictOf_iff.mpr ⟨_, (N _ pb).1, db⟩) (by omega) (fun _ => hits_books N hR Bb (by show A.units + 1 + 2 < cLine; omega) Ba fun z hz => (hs z.1).symm.trans (ct_mem na hz)) ?_
  rw [hl, beq_self_eq_true]
  exact h
end
-- PART 70: an item of a written tuple at a drawn place
theorem item_intP {prog : Program} {w : World} {A : Around} {E : Value → Shared → Prop} {s : Shared} {h₀ : Heap} {L : Addr} {news : Led} {value slice : Expr} {T : Addr} {vs : List Value} {k : Int} {u : Tok} {Q : Value → Shared → Prop} (P : Value → Prop) (N : News h₀ L s.heap news) (hm : (T, tupO vs) ∈ news) (h0 : 0 ≤ k) (h1 : k < (vs.length : Int)) (h63 : k < 2 ^ 63) (hv : ∀ v ∈ vs, P v)
    (h : ∀ v, P v → Q v s) (hs : subscripted slice false (.ref T) (.int k u) = operate [.ref T, .int k u] (getItem (.ref T) (.int k u)) := by with_unfolding_all rfl) (hg : ∀ r, letTemporaryGo value (.ref T) r = pure () := by intro _; with_unfolding_all rfl) :
    wpAny (model prog w) A (subscriptTail value slice (.ref T) (.int k u)) Q E s := by
  have hlt : k.toNat < vs.length := by omega
  have e := hv _ (List.getElem_mem hlt)
  have hx : vs[k.toNat]? = some (vs[k.toNat]) := List.getElem?_eq_getElem hlt
  exact item_tupleL (x := vs[k.toNat]) (j := k.toNat) ⟨_, (N _ hm).1, rfl, _, rfl⟩ (by omega) (by omega) (seqIdx h0 h1) hx (h _ e) hs hg
theorem rows_10 : True := by
  k_with_none
  k_with "ALL" => first | assumption | exact ne_of_allLt (by assumption)
  k_with "LT2" => ((try dsimp only [AllLtK]); intros; (try refine ltk_tail fun _ => ?_))
  k_with "ROOM" => first | exact Nat.le_of_ble_eq_true rfl | exact bq2 (by assumption) (by rfl) | exact bq1 (by assumption) (by rfl) | exact bq3 (by assumption) (by rfl) | exact bq0 (by assumption) (by rfl) | ((simp only [depth_under_make, depth_under_kw, depth_in1, depth_deeper, depth_caller, rl]); omega)
  k_with "UNITS" => first | exact Nat.le_of_ble_eq_true rfl | exact bq2 (by assumption) (by rfl) | exact bq1 (by assumption) (by rfl) | exact bq3 (by assumption) (by rfl) | exact bq0 (by assumption) (by rfl) | ((have hcL9 := cLine_is); (simp only [units_in1, units_deeper, Around.mark_units, units_caller]); omega)
  k_with "compareOp In int ref" => (k_here; k_dflt (refine' kda_in (knd := PySem.intKind _ _) (by k_asm) (by k_mem) (by k_asm) (by k_asm) (intKind_is _ _ _ _) _ (by assumption) ?_))
  k_with "compareOp NotIn int ref" => (k_here; k_dflt (refine' kdg_notin (knd := PySem.intKind _ _) (by k_asm) (by k_mem) (by k_asm) (by k_asm) (intKind_is _ _ _ _) _ (by assumption) ?_); (try dsimp only [Bool.not_true, Bool.not_false]))
  k_with "getItem ref int" => (k_here; k_dflt (refine kdt_getItem (knd := PySem.intKind _ _) (by k_asm) (by k_mem) (by k_asm) (intKind_is _ _ _ _) (by first | assumption | exact valueAt_put _ _ _) ?_))
  k_with "subscriptTail" => (k_here; (with_reducible show wpAny _ _ (subscriptTail _ _ (Value.ref _) (Value.int _ _)) _ _ _); k_dflt (refine kdt_tail (knd := PySem.intKind _ _) (by k_asm) (by k_mem) (by k_asm) ?_))
  k_with "MEM" => ((repeat (first | exact List.mem_cons_self | assumption | refine List.mem_cons_of_mem _ ?_)); done)
  k_with "eval ListComp" => refine halt_ ?_
  k_with "exec For" => refine halt_ ?_
  k_with "exec While" => refine halt_ ?_
  k_with "call ref" => ((with_reducible first
  | show wpAny _ _ (call (Value.ref 81) _) _ _ _ | show wpAny _ _ (call (Value.ref 207) _) _ _ _ | show wpAny _ _ (call (Value.ref 214) _) _ _ _
  | show wpAny _ _ (call (Value.ref 247) _) _ _ _ | show wpAny _ _ (call (Value.ref 254) _) _ _ _ | show wpAny _ _ (call (Value.ref 282) _) _ _ _ | show wpAny _ _ (call (Value.ref 289) _) _ _ _
  | show wpAny _ _ (call (Value.ref 310) _) _ _ _ | show wpAny _ _ (call (Value.ref 324) _) _ _ _ | show wpAny _ _ (call (Value.ref 345) _) _ _ _ | show wpAny _ _ (call (Value.ref 422) _) _ _ _ | show wpAny _ _ (call (Value.ref 429) _) _ _ _ | show wpAny _ _ (call (Value.ref 436) _) _ _ _
  | show wpAny _ _ (call (Value.ref 450) _) _ _ _ | show wpAny _ _ (call (Value.ref 457) _) _ _ _ | show wpAny _ _ (call (Value.ref 462) _) _ _ _ | show wpAny _ _ (call (Value.ref 467) _) _ _ _ | show wpAny _ _ (call (Value.ref 474) _) _ _ _ | show wpAny _ _ (call (Value.ref 479) _) _ _ _ | show wpAny _ _ (call (Value.ref 486) _) _ _ _); refine halt_ ?_)
  k_with "SUB" => ((repeat (first | assumption | refine List.mem_cons_of_mem _ ?_)); done)
  k_with "setItem ref int" => (k_here; k_dflt (refine' kda_set (knd := PySem.intKind _ _) (by k_asm) (by k_asm) (by k_updF) (by k_asm) (intKind_is _ _ _ _) (by assumption) ?_); intro hz9 oz9 Fz9 Nz9 hdz9; (try dsimp only at Nz9); revert hz9 oz9 Fz9 Nz9 hdz9; intro _ _ _ _ _)
  k_with "call builtin:list.append" => (k_here; (with_reducible show wpAny _ _ (call (Value.builtin _) [Value.ref _, _]) _ _ _); k_dflt (refine' append_K (by k_asm) (by k_asm) (by k_upd) ?_ (by first | assumption | (simp only [Array.size_push, List.size_toArray, List.length_map, sizeLine_eq]; omega)); k_whole); intro _ _ _; (try k_sweep))
  k_with "execs cons" => ((with_reducible refine wpAny_execs_cons ?_); (try dsimp only); k_fold; (rename Flow → Shared → Prop => qz9); (rename Value → Shared → Prop => ez9))
  k_with "KSTEPS" => repeat' (first | (k_unfold; (try clear ez9); (try clear qz9); (try clear ek); (try clear qk); (try dsimp only)) | (k_end; kc_close) | walk1 | (dsimp only; walk1) | (leave1; walk_say "STEP leave1"; (try dsimp only)) | fail "no step")
  k_with "NE" => (refine neN ?_; (try dsimp only); first | assumption | (refine Ne.symm ?_; assumption) | (refine Nat.ne_of_lt ?_; first | assumption | (refine Nat.lt_trans ?_ (by assumption); assumption) | (refine Nat.lt_trans ?_ (by assumption); refine Nat.lt_trans ?_ (by assumption); assumption)) | (refine Nat.ne_of_gt ?_; first | assumption | (refine Nat.lt_trans ?_ (by assumption); assumption) | (refine Nat.lt_trans ?_ (by assumption); refine Nat.lt_trans ?_ (by assumption); assumption)))
  k_with "ENTC" => (refine' code_defC ?k1v0 ?k2v0 ?k3v0 ?k4v0 ?k5v0 ?kAv0 ?kFv0 ?kKv0 ?k6v0 ?k7v0 ?k8v0 ?k9v0 ?kBv0 ?kDv0 ?_ ?c2v0 ?c3v0 ?c4v0; (case kAv0 | kFv0 => exact rfl); (case kKv0 => first | exact rfl | assumption); (case k1v0 | k2v0 | k3v0 | k4v0 | k5v0 => k_asm); (case k6v0 | k7v0 => k_is); (case k8v0 => k_room); (case k9v0 => exact BindsTo.of_eq rfl); (case kBv0 => exact rfl); (case kDv0 => decide +kernel); (case c2v0 | c3v0 | c4v0 => exact rfl); k_whole; intro gz9 Lz9 hz9 tkz9 cz9 FGz9 Fz9 Nz9 Yz9 Bz9 Xz9 Tz9 l1z9; (try k_lt l1z9); k_cells Yz9; (try simp only [List.cons_append, List.nil_append] at Nz9); revert gz9 Lz9 hz9 tkz9; intros; (try dsimp only); (try k_fold))
  k_with "ENTC" => (refine' code_defC ?k1v1 ?k2v1 ?k3v1 ?k4v1 ?k5v1 ?kAv1 ?kFv1 ?kKv1 ?k6v1 ?k7v1 ?k8v1 ?k9v1 ?kBv1 ?kDv1 ?_ ?c2v1 ?c3v1 ?c4v1; (case kAv1 | kFv1 => exact rfl); (case kKv1 => first | exact rfl | assumption); (case k1v1 | k2v1 | k3v1 | k4v1 | k5v1 => k_asm); (case k6v1 | k7v1 => k_is); (case k8v1 => k_room); (case k9v1 => exact BindsTo.of_eq rfl); (case kBv1 => exact rfl); (case kDv1 => decide +kernel); (case c2v1 | c3v1 | c4v1 => exact rfl); k_whole; intro gz9 Lz9 hz9 tkz9 cz9 FGz9 Fz9 Nz9 Yz9 Bz9 Xz9 Tz9 l1z9; (try k_lt l1z9); k_cells Yz9; (try simp only [List.cons_append, List.nil_append] at Nz9); revert gz9 Lz9 hz9 tkz9; intros; (try dsimp only); (try k_fold))
  k_with "ENTC" => (refine' code_defC ?k1v2 ?k2v2 ?k3v2 ?k4v2 ?k5v2 ?kAv2 ?kFv2 ?kKv2 ?k6v2 ?k7v2 ?k8v2 ?k9v2 ?kBv2 ?kDv2 ?_ ?c2v2 ?c3v2 ?c4v2; (case kAv2 | kFv2 => exact rfl); (case kKv2 => first | exact rfl | assumption); (case k1v2 | k2v2 | k3v2 | k4v2 | k5v2 => k_asm); (case k6v2 | k7v2 => k_is); (case k8v2 => k_room); (case k9v2 => exact BindsTo.of_eq rfl); (case kBv2 => exact rfl); (case kDv2 => decide +kernel); (case c2v2 | c3v2 | c4v2 => exact rfl); k_whole; intro gz9 Lz9 hz9 tkz9 cz9 FGz9 Fz9 Nz9 Yz9 Bz9 Xz9 Tz9 l1z9; (try k_lt l1z9); k_cells Yz9; (try simp only [List.cons_append, List.nil_append] at Nz9); revert gz9 Lz9 hz9 tkz9; intros; (try dsimp only); (try k_fold))
  k_with "ENT" => (refine' code_def ?k1v0 ?k2v0 ?k3v0 ?k4v0 ?k5v0 ?kAv0 ?kFv0 ?kKv0 ?k6v0 ?k7v0 ?k8v0 ?k9v0 ?kBv0 ?_ ?c2v0 ?c3v0 ?c4v0 ?c5v0; (case kAv0 | kFv0 => exact rfl); (case kKv0 => first | exact rfl | assumption); (case k1v0 | k2v0 | k3v0 | k4v0 | k5v0 => k_asm); (case k6v0 | k7v0 => k_is); (case k8v0 => k_room); (case k9v0 => exact BindsTo.of_eq rfl); (case c5v0 => decide); (case kBv0 => exact locs rfl); (case c2v0 | c3v0 | c4v0 => exact rfl); k_whole; intro _ _ _ _ _ _ _ _ _; (try dsimp only); (try k_fold))
  k_with "ENT" => (refine' code_def ?k1v1 ?k2v1 ?k3v1 ?k4v1 ?k5v1 ?kAv1 ?kFv1 ?kKv1 ?k6v1 ?k7v1 ?k8v1 ?k9v1 ?kBv1 ?_ ?c2v1 ?c3v1 ?c4v1 ?c5v1; (case kAv1 | kFv1 => exact rfl); (case kKv1 => first | exact rfl | assumption); (case k1v1 | k2v1 | k3v1 | k4v1 | k5v1 => k_asm); (case k6v1 | k7v1 => k_is); (case k8v1 => k_room); (case k9v1 => exact BindsTo.of_eq rfl); (case c5v1 => decide); (case kBv1 => exact locs rfl); (case c2v1 | c3v1 | c4v1 => exact rfl); k_whole; intro _ _ _ _ _ _ _ _ _; (try dsimp only); (try k_fold))
  k_with "ENT" => (refine' code_def ?k1v2 ?k2v2 ?k3v2 ?k4v2 ?k5v2 ?kAv2 ?kFv2 ?kKv2 ?k6v2 ?k7v2 ?k8v2 ?k9v2 ?kBv2 ?_ ?c2v2 ?c3v2 ?c4v2 ?c5v2; (case kAv2 | kFv2 => exact rfl); (case kKv2 => first | exact rfl | assumption); (case k1v2 | k2v2 | k3v2 | k4v2 | k5v2 => k_asm); (case k6v2 | k7v2 => k_is); (case k8v2 => k_room); (case k9v2 => exact BindsTo.of_eq rfl); (case c5v2 => decide); (case kBv2 => exact locs rfl); (case c2v2 | c3v2 | c4v2 => exact rfl); k_whole; intro _ _ _ _ _ _ _ _ _; (try dsimp only); (try k_fold))
  k_with "ENT" => (refine' code_def ?k1v3 ?k2v3 ?k3v3 ?k4v3 ?k5v3 ?kAv3 ?kFv3 ?kKv3 ?k6v3 ?k7v3 ?k8v3 ?k9v3 ?kBv3 ?_ ?c2v3 ?c3v3 ?c4v3 ?c5v3; (case kAv3 | kFv3 => exact rfl); (case kKv3 => first | exact rfl | assumption); (case k1v3 | k2v3 | k3v3 | k4v3 | k5v3 => k_asm); (case k6v3 | k7v3 => k_is); (case k8v3 => k_room); (case k9v3 => exact BindsTo.of_eq rfl); (case c5v3 => decide); (case kBv3 => exact locs rfl); (case c2v3 | c3v3 | c4v3 => exact rfl); k_whole; intro _ _ _ _ _ _ _ _ _; (try dsimp only); (try k_fold))
  k_with "ENT" => (refine' code_def ?k1v4 ?k2v4 ?k3v4 ?k4v4 ?k5v4 ?kAv4 ?kFv4 ?kKv4 ?k6v4 ?k7v4 ?k8v4 ?k9v4 ?kBv4 ?_ ?c2v4 ?c3v4 ?c4v4 ?c5v4; (case kAv4 | kFv4 => exact rfl); (case kKv4 => first | exact rfl | assumption); (case k1v4 | k2v4 | k3v4 | k4v4 | k5v4 => k_asm); (case k6v4 | k7v4 => k_is); (case k8v4 => k_room); (case k9v4 => exact BindsTo.of_eq rfl); (case c5v4 => decide); (case kBv4 => exact locs rfl); (case c2v4 | c3v4 | c4v4 => exact rfl); k_whole; intro _ _ _ _ _ _ _ _ _; (try dsimp only); (try k_fold))
  k_with "ENT" => (refine' code_def ?k1v5 ?k2v5 ?k3v5 ?k4v5 ?k5v5 ?kAv5 ?kFv5 ?kKv5 ?k6v5 ?k7v5 ?k8v5 ?k9v5 ?kBv5 ?_ ?c2v5 ?c3v5 ?c4v5 ?c5v5; (case kAv5 | kFv5 => exact rfl); (case kKv5 => first | exact rfl | assumption); (case k1v5 | k2v5 | k3v5 | k4v5 | k5v5 => k_asm); (case k6v5 | k7v5 => k_is); (case k8v5 => k_room); (case k9v5 => exact BindsTo.of_eq rfl); (case c5v5 => decide); (case kBv5 => exact locs rfl); (case c2v5 | c3v5 | c4v5 => exact rfl); k_whole; intro _ _ _ _ _ _ _ _ _; (try dsimp only); (try k_fold))
  k_with "ENT" => (refine' code_def ?k1v6 ?k2v6 ?k3v6 ?k4v6 ?k5v6 ?kAv6 ?kFv6 ?kKv6 ?k6v6 ?k7v6 ?k8v6 ?k9v6 ?kBv6 ?_ ?c2v6 ?c3v6 ?c4v6 ?c5v6; (case kAv6 | kFv6 => exact rfl); (case kKv6 => first | exact rfl | assumption); (case k1v6 | k2v6 | k3v6 | k4v6 | k5v6 => k_asm); (case k6v6 | k7v6 => k_is); (case k8v6 => k_room); (case k9v6 => exact BindsTo.of_eq rfl); (case c5v6 => decide); (case kBv6 => exact locs rfl); (case c2v6 | c3v6 | c4v6 => exact rfl); k_whole; intro _ _ _ _ _ _ _ _ _; (try dsimp only); (try k_fold))
  k_with "ENT" => (refine' code_def ?k1v7 ?k2v7 ?k3v7 ?k4v7 ?k5v7 ?kAv7 ?kFv7 ?kKv7 ?k6v7 ?k7v7 ?k8v7 ?k9v7 ?kBv7 ?_ ?c2v7 ?c3v7 ?c4v7 ?c5v7; (case kAv7 | kFv7 => exact rfl); (case kKv7 => first | exact rfl | assumption); (case k1v7 | k2v7 | k3v7 | k4v7 | k5v7 => k_asm); (case k6v7 | k7v7 => k_is); (case k8v7 => k_room); (case k9v7 => exact BindsTo.of_eq rfl); (case c5v7 => decide); (case kBv7 => exact locs rfl); (case c2v7 | c3v7 | c4v7 => exact rfl); k_whole; intro _ _ _ _ _ _ _ _ _; (try dsimp only); (try k_fold))
  k_with "ENT" => (refine' code_def ?k1v8 ?k2v8 ?k3v8 ?k4v8 ?k5v8 ?kAv8 ?kFv8 ?kKv8 ?k6v8 ?k7v8 ?k8v8 ?k9v8 ?kBv8 ?_ ?c2v8 ?c3v8 ?c4v8 ?c5v8; (case kAv8 | kFv8 => exact rfl); (case kKv8 => first | exact rfl | assumption); (case k1v8 | k2v8 | k3v8 | k4v8 | k5v8 => k_asm); (case k6v8 | k7v8 => k_is); (case k8v8 => k_room); (case k9v8 => exact BindsTo.of_eq rfl); (case c5v8 => decide); (case kBv8 => exact locs rfl); (case c2v8 | c3v8 | c4v8 => exact rfl); k_whole; intro _ _ _ _ _ _ _ _ _; (try dsimp only); (try k_fold))
  k_with "ENT" => (refine' code_def ?k1v9 ?k2v9 ?k3v9 ?k4v9 ?k5v9 ?kAv9 ?kFv9 ?kKv9 ?k6v9 ?k7v9 ?k8v9 ?k9v9 ?kBv9 ?_ ?c2v9 ?c3v9 ?c4v9 ?c5v9; (case kAv9 | kFv9 => exact rfl); (case kKv9 => first | exact rfl | assumption); (case k1v9 | k2v9 | k3v9 | k4v9 | k5v9 => k_asm); (case k6v9 | k7v9 => k_is); (case k8v9 => k_room); (case k9v9 => exact BindsTo.of_eq rfl); (case c5v9 => decide); (case kBv9 => exact locs rfl); (case c2v9 | c3v9 | c4v9 => exact rfl); k_whole; intro _ _ _ _ _ _ _ _ _; (try dsimp only); (try k_fold))
  k_with "ENT" => (refine' code_def ?k1v10 ?k2v10 ?k3v10 ?k4v10 ?k5v10 ?kAv10 ?kFv10 ?kKv10 ?k6v10 ?k7v10 ?k8v10 ?k9v10 ?kBv10 ?_ ?c2v10 ?c3v10 ?c4v10 ?c5v10; (case kAv10 | kFv10 => exact rfl); (case kKv10 => first | exact rfl | assumption); (case k1v10 | k2v10 | k3v10 | k4v10 | k5v10 => k_asm); (case k6v10 | k7v10 => k_is); (case k8v10 => k_room); (case k9v10 => exact BindsTo.of_eq rfl); (case c5v10 => decide); (case kBv10 => exact locs rfl); (case c2v10 | c3v10 | c4v10 => exact rfl); k_whole; intro _ _ _ _ _ _ _ _ _; (try dsimp only); (try k_fold))
  k_with "ENT" => (refine' code_def ?k1v11 ?k2v11 ?k3v11 ?k4v11 ?k5v11 ?kAv11 ?kFv11 ?kKv11 ?k6v11 ?k7v11 ?k8v11 ?k9v11 ?kBv11 ?_ ?c2v11 ?c3v11 ?c4v11 ?c5v11; (case kAv11 | kFv11 => exact rfl); (case kKv11 => first | exact rfl | assumption); (case k1v11 | k2v11 | k3v11 | k4v11 | k5v11 => k_asm); (case k6v11 | k7v11 => k_is); (case k8v11 => k_room); (case k9v11 => exact BindsTo.of_eq rfl); (case c5v11 => decide); (case kBv11 => exact locs rfl); (case c2v11 | c3v11 | c4v11 => exact rfl); k_whole; intro _ _ _ _ _ _ _ _ _; (try dsimp only); (try k_fold))
  k_with "ENT" => (refine' code_def ?k1v12 ?k2v12 ?k3v12 ?k4v12 ?k5v12 ?kAv12 ?kFv12 ?kKv12 ?k6v12 ?k7v12 ?k8v12 ?k9v12 ?kBv12 ?_ ?c2v12 ?c3v12 ?c4v12 ?c5v12; (case kAv12 | kFv12 => exact rfl); (case kKv12 => first | exact rfl | assumption); (case k1v12 | k2v12 | k3v12 | k4v12 | k5v12 => k_asm); (case k6v12 | k7v12 => k_is); (case k8v12 => k_room); (case k9v12 => exact BindsTo.of_eq rfl); (case c5v12 => decide); (case kBv12 => exact locs rfl); (case c2v12 | c3v12 | c4v12 => exact rfl); k_whole; intro _ _ _ _ _ _ _ _ _; (try dsimp only); (try k_fold))
  k_with "ENT" => (refine' code_def ?k1v13 ?k2v13 ?k3v13 ?k4v13 ?k5v13 ?kAv13 ?kFv13 ?kKv13 ?k6v13 ?k7v13 ?k8v13 ?k9v13 ?kBv13 ?_ ?c2v13 ?c3v13 ?c4v13 ?c5v13; (case kAv13 | kFv13 => exact rfl); (case kKv13 => first | exact rfl | assumption); (case k1v13 | k2v13 | k3v13 | k4v13 | k5v13 => k_asm); (case k6v13 | k7v13 => k_is); (case k8v13 => k_room); (case k9v13 => exact BindsTo.of_eq rfl); (case c5v13 => decide); (case kBv13 => exact locs rfl); (case c2v13 | c3v13 | c4v13 => exact rfl); k_whole; intro _ _ _ _ _ _ _ _ _; (try dsimp only); (try k_fold))
  k_with "DEP" => first | exact Nat.le_of_ble_eq_true rfl | exact bq2 (by assumption) (by rfl) | exact bq1 (by assumption) (by rfl) | exact bq3 (by assumption) (by rfl) | exact bq0 (by assumption) (by rfl) | ((try simp only [weight_make, depth_under_make, depth_under_kw, depth_in1, depth_deeper, depth_caller]); (try dsimp only); omega)
  k_with "UNI" => first | exact Nat.le_of_ble_eq_true rfl | exact bq2 (by assumption) (by rfl) | exact bq1 (by assumption) (by rfl) | exact bq3 (by assumption) (by rfl) | exact bq0 (by assumption) (by rfl) | ((try simp only [cunits_make, units_under_make, units_in1, units_deeper, Around.mark_units, units_caller]); (try dsimp only); omega)
  k_with "LTS" => ((try simp only [AllLt, and_true] at *); (repeat (rename _ ∧ _ => hcj; obtain ⟨_, _⟩ := hcj)))
  k_with "call ref" => (k_here; (with_reducible show wpAny _ _ (call (Value.ref 196) _) _ _ _); k_dflt (refine row_use (by k_asm) (by k_asm) (by k_asm) (by k_asm) (by k_asm) (by first | exact rfl | assumption) (by walk_at "DEP") (by walk_at "UNI") ?_); intro _ _ _ _ _ _ _ _ l1z9 _ _; refine ltk_elim l1z9 ?_; clear l1z9; walk_at "LT2"; (try k_sweep))
  k_with "call ref" => (k_here; (with_reducible show wpAny _ _ (call (Value.ref 165) _) _ _ _); k_dflt (refine acc_use (by k_asm) (by k_asm) (by k_asm) (by k_asm) (by k_asm) (by first | exact rfl | assumption) (by walk_at "DEP") (by walk_at "UNI") ?_); intro _ _ _ _ _ _ _ _ _ _ _ l1z9 _ _; refine ltk_elim l1z9 ?_; clear l1z9; walk_at "LT2"; (try k_sweep))
  k_with "delItem ref int" => (k_here; k_dflt (refine' del_int (by k_asm) (by k_asm) (by k_updF) (by k_asm) (by assumption) (by assumption) ?_); intro hz9 oz9 Fz9 Nz9 hdz9; (try dsimp only at Nz9); revert hz9 oz9 Fz9 Nz9 hdz9; intro _ _ _ _ _)
  k_with "call builtin:len" => (k_here; (with_reducible show wpAny _ _ (call (Value.builtin "len") [Value.ref _]) _ _ _); k_dflt (refine len_list (News.isList (by k_asm) (by k_mem)) (by simp only [List.size_toArray, List.length_map]; omega) ?_); (try simp only [List.size_toArray, List.length_map]))
  k_with "call builtin:list.pop" => (k_here; k_dflt (refine' kl_popU (by k_asm) (by k_asm) (by k_upd) (by exact pop_last _ _) (by exact pop_fits (by assumption)) ?_; k_whole); intro _ _ _; (try k_sweep))
  trivial
-- PART 60c: mark
theorem mark_con {w : World} {hv0 : Option Value} (V : StV) (rest : Led) (H : WF w V rest) :
    Con w hv0 415 [.ref V.st] 5 30 (stL w.params V rest) (fun r l' => l' = stL w.params V rest ∧ ∃ t, r = .int (V.rows.length : Int) t) := by
  intro mean mg mb dp un gd cn cs a ccd cl outer A₀ base h₀ L m s Q E B F X N T hk hd hu ret
  have hszr := H.sr
  have hl : stL w.params V rest = (V.st, instObj 439 V.ds) :: (V.ds, stO w.params V) :: (V.da, V.oa) :: (V.dj, PySem.W.listOf (V.rows.map fun r => Value.ref r.a).toArray V.nj) :: (V.dt, V.ot) :: (V.dd, V.od) :: tlL w.params V.accs V.rows rest := rfl
  rw [hl] at N
  generalize tlL w.params V.accs V.rows rest = tl at N hl
  k_dflt ktr_enter
  k_steps
  exact ret _ _ _ _ (by k_asm) (by k_asm) ⟨hl.symm, _, rfl⟩
-- PART 60d: withdraw at a turn; the turn's end
theorem st_more2 {P : Params} {V : StV} {r : Led} {x y : Addr × Obj} {p : Addr × Obj} (h : p ∈ stL P V (x :: y :: r)) : p ∈ x :: y :: stL P V r := by
  rcases List.mem_cons.mp (st_more.mp h) with h | h
  · exact h ▸ .head _
  · exact .tail _ (st_more.mp h)
theorem WF.more2 {w : World} {V : StV} {r : Led} {a b : Addr} {oa ob : Obj} (H : WF w V r) (f1 : AllLt a (stL w.params V r)) (f2 : @LT.lt Nat _ a b) : WF w V ((b, ob) :: (a, oa) :: r) := by
  refine (H.more (o := oa) fun p hp => Nat.ne_of_lt (allLt_mem.mp f1 p hp)).more (o := ob) fun p hp => ?_
  rcases List.mem_cons.mp (st_more.mp hp) with rfl | hp
  · exact Nat.ne_of_lt f2
  · exact Nat.ne_of_lt (Nat.lt_trans (allLt_mem.mp f1 p hp) f2)
theorem withdraw_at {w : World} (V : StV) (R : Led) (H : WF w V R) (hnn : ∀ x ∈ V.accs, 0 ≤ x.bal) (ha : V.accs.length ≤ 900) (hb : V.touched.length ≤ 900) (hc : V.rows.length ≤ 9000)
    {mean : ExcName → Option Value} {mg mb : Str → Option Value} {dp un : Nat} {gd : Option (List Code)} {cn : Str} {cs : Scope} {a : Addr} {ccd : Value} {cl : List (Str × Addr)} {outer : List Env} {A₀ : Around} {base g : Heap} {L wa wd : Addr}
    {m : Str → Option Value} {s : Shared} {Q E : Value → Shared → Prop} {at_ home amt : Int} {k1 k2 k3 k4 u1 u2 u3 u4 : Tok} {n : Nat}
    (K : Below A₀ base outer g) (F : Fr g L s.heap m) (X : (Mine.hd.heap_39 w.params).In g)
    (N : News g L s.heap ((wa, instObj 70 wd) :: (wd, PySem.W.dictOf [ent w.params (Str.ofString "index") k1 (.int at_ u1), ent w.params (Str.ofString "validator") k2 (.int 7 u2), ent w.params (Str.ofString "address") k3 (.int home u3), ent w.params (Str.ofString "amount") k4 (.int amt u4)] n) :: stL w.params V R))
    (T : Tp mean mg mb g) (l1 : AllLt wd (stL w.params V R)) (l2 : @LT.lt Nat _ wd wa) (hk : cs.kind = .function) (hdp : dp + 30 < 600) (hun : un + 300 < 9000)
    (ret : taken V.accs home amt → ∀ o1 o2 r h' tk' l', WF w V ((wa, o1) :: (wd, o2) :: R) → UpPost w V ((wa, o1) :: (wd, o2) :: R) home (fun c => { c with bal := balAt V.accs home + amt * 1000000000 }) (some (.bal home (balAt V.accs home))) .none l' → Fr g L h' m → News g L h' l' → Q r { s with heap := h', toks := tk' })
    (exc : ¬ taken V.accs home amt → ∀ G e d k u n h' tk', Fr g L G m → G.UpToSlots h' → RaisedD base G (envX cn cs L a ccd cl :: outer) e (.ref 51) (some d) ((d, PySem.W.dictOf [ent w.params (Str.ofString "word") k (.str (Str.ofString "withdrawal") u)] n) :: stL w.params V R) h' → E (.ref e) { s with heap := h', toks := tk' }) :
    wpAny (model pw w) (atp none dp un gd cn cs L a ccd cl outer) (call (.ref 81) [.ref V.st, .ref wa]) Q E s := by
  have H3 : WF w V ((wa, instObj 70 wd) :: (wd, wdO w.params at_ home amt k1 k2 k3 k4 u1 u2 u3 u4 n) :: R) := H.more2 l1 l2
  have N3 : News g L s.heap (stL w.params V ((wa, instObj 70 wd) :: (wd, wdO w.params at_ home amt k1 k2 k3 k4 u1 u2 u3 u4 n) :: R)) := News.sub N fun p hp => st_more2 hp
  have C := withdraw_con V _ H3 hnn wa wd at_ home amt k1 k2 k3 k4 u1 u2 u3 u4 n (.head _) (.tail _ (.head _)) ha hb hc
  unfold ConE at C
  refine C mean mg mb dp un gd cn cs a ccd cl outer A₀ base g L m s Q E K F X N3 T hk hdp hun (fun r h' tk' l' F' N' P => ret P.1 _ _ r h' tk' l' H3 P.2 F' N') fun hr G e d k u n h' tk' FG UG RG => exc hr G e d k u n h' tk' FG UG ?_
  obtain ⟨B, a0, hB, hBG, hl, hf, hD⟩ := RG
  exact ⟨B, a0, hB, hBG, fun q hq => hl q (by
    rcases List.mem_cons.mp hq with h | h
    · exact h ▸ .head _
    · exact .tail _ (st_more.mpr (.tail _ (st_more.mpr (.tail _ h))))), hf, hD⟩
theorem wf_mid {w : World} {V : StV} {pre r : Led} {I : Addr} {oI : Obj} (H : WF w V (pre ++ (I, oI) :: r)) : WF w V (pre ++ r) ∧ ∀ p ∈ stL w.params V (pre ++ r), @Ne Nat p.1 I := (H.perm List.perm_middle).less
theorem Bk.hbb {w : World} {R : Led} {kvs : List (Int × Value)} {accs : List Acc} (b : Bk w R kvs (cont accs)) : (kvs.map (·.1) = accs.map (·.k)) ∧ ∀ k v, valueAt kvs k = some v → ∃ x, accAt accs k = some x ∧ BkE w R v x.ct := by
  refine ⟨?_, fun k v hv => ?_⟩
  · rw [b.keys]; unfold cont; rw [List.map_map]; rfl
  · rcases b.at k with ⟨q, -⟩ | ⟨v', c, h1, h2, e⟩
    · rw [q] at hv; cases hv
    · rw [h1] at hv
      cases hv
      rw [ctAt_cont] at h2
      obtain ⟨x, hx, rfl⟩ := Option.map_eq_some_iff.mp h2
      exact ⟨x, hx, e⟩
theorem rows_11 : True := by
  k_with "call builtin:sorted" => ((with_reducible show wpAny _ _ (call (Value.builtin "sorted") [Value.ref _]) _ _ _); refine halt_ ?_)
  k_with "binaryOp Add ref ref" => ((with_reducible show wpAny _ _ (binaryOp _ (Value.ref _) (Value.ref _)) _ _ _); refine halt_ ?_)
  k_with "exec Assign cons ListComp" => refine halt_ ?_
  k_with "getMethod ref" => (k_here; (with_reducible show wpAny _ _ (getMethod (Value.ref _) (Str.ofString "get") _) _ _ _); k_dflt (refine kdg_method (knd := PySem.intKind _ _) (by k_asm) (by k_mem) (by k_asm) ?_))
  k_with "call builtin:dict.get" => (k_here; k_dflt (refine kdg_get1 (knd := PySem.intKind _ _) (by k_asm) (by k_mem) (by k_asm) (by assumption) (intKind_is _ _ _ _) (some _) (by assumption) ?_); (try dsimp only [Option.getD]))
  k_with "compareOp Eq ref ref" => ((with_reducible show wpAny _ _ (compareOp _ (Value.ref _) (Value.ref _)) _ _ _); refine halt_ ?_)
  k_with "UNC" => first | exact Nat.le_of_ble_eq_true rfl | exact bq2 (by assumption) (by rfl) | exact bq1 (by assumption) (by rfl) | exact bq3 (by assumption) (by rfl) | exact bq0 (by assumption) (by rfl) | ((have hcL9 := cLine_is); (try simp only [units_in1, units_deeper, Around.mark_units, units_caller]); (try dsimp only); omega)
  k_with "call type:dict" => ((with_reducible show wpAny _ _ (call (Value.type "dict") [Value.ref _]) _ _ _); refine halt_ ?_)
  k_with "call builtin:dict.get" => (k_here; (with_reducible show wpAny _ _ (call (Value.builtin "dict.get") [Value.ref _, Value.int _ _, Value.ref _]) _ _ _); k_dflt (refine kdg_get2 (knd := PySem.intKind _ _) (by k_asm) (by k_mem) (by k_asm) (by assumption) (intKind_is _ _ _ _) _ (by assumption) ?_); (try dsimp only [Option.getD]))
  k_with "compareOp NotEq ref ref" => ((with_reducible show wpAny _ _ (compareOp _ (Value.ref _) (Value.ref _)) _ _ _); refine halt_ ?_)
  k_with "compareOp NotIn ref ref" => ((with_reducible show wpAny _ _ (compareOp _ (Value.ref _) (Value.ref _)) _ _ _); refine halt_ ?_)
  k_with "setItem ref ref" => ((with_reducible show wpAny _ _ (setItem (Value.ref _) (Value.ref _) _) _ _ _); refine halt_ ?_)
  k_with "call builtin:dict.get" => (k_here; (with_reducible show wpAny _ _ (call (Value.builtin "dict.get") [Value.ref _, Value.int _ _, Value.int _ _]) _ _ _); k_dflt (refine kdg_get2 (knd := PySem.intKind _ _) (by k_asm) (by k_mem) (by k_asm) (by assumption) (intKind_is _ _ _ _) _ (by assumption) ?_); (try dsimp only [Option.getD]))
  k_with "exec For Name Call cons nil" => refine halt_ ?_
  k_with "call ref" => ((with_reducible show wpAny _ _ (call (Value.ref 439) _) _ _ _); refine halt_ ?_)
  k_with "call ref" => ((with_reducible show wpAny _ _ (call (Value.ref 415) _) _ _ _); refine halt_ ?_)
  trivial
-- PART 60: _law_all_given walked
def GfE (l : Led) (v : Value) (g : Int × Int) : Prop := ∃ T th ta, v = .ref T ∧ (T, tupO [.int g.1 th, .int g.2 ta]) ∈ l
structure GfA (l : Led) (vs : List Value) (gs : List (Int × Int)) : Prop where
  len : vs.length = gs.length
  at_ : ∀ (j : Nat) (v : Value), vs[j]? = some v → ∃ g, gs[j]? = some g ∧ GfE l v g
/-- what the loop bears from turn to turn -/
def JAll (w : World) (L : Addr) (oL : Obj) (V0 : StV) (rest Rb : Led) (gs : List (Int × Int)) (j : Nat) (m : Str → Option Value) (nx : Led) : Prop :=
  ∃ (V : StV) (new : Led) (kvs : List (Int × Value)) (bk : Addr) (bo : Obj) (t : Tok) (sl : Array (Option Value)),
    m (Str.ofString "book") = some (.ref bk) ∧ m (Str.ofString "refused") = some (.int ((runN (cont V0.accs) (gs.take j)).2 : Int) t) ∧
    nx = (L, lwO oL sl) :: stL w.params V (new ++ rest) ∧ (∀ p ∈ stL w.params V (new ++ rest), p.1 ≠ L) ∧ WF w V (new ++ rest) ∧ Inv V0 V gs j ∧
    (bk, bo) ∈ new ++ Rb ∧ bo.IsDictOf (PySem.intKind pw w) kvs ∧ (bk == sysModules) = false ∧ Bk w (new ++ Rb) kvs (cont V.accs)
def AllPost (w : World) (V0 : StV) (rest Rb : Led) (gs : List (Int × Int)) (r : Value) (l' : Led) : Prop :=
  ∃ (V : StV) (new : Led) (kvs : List (Int × Value)) (bk : Addr) (bo : Obj) (t : Tok) (R : Addr),
    r = .ref R ∧ l' = stL w.params V (new ++ rest) ∧ WF w V (new ++ rest) ∧ Inv V0 V gs gs.length ∧ (R, tupO [.ref bk, .int ((runN (cont V0.accs) gs).2 : Int) t]) ∈ new ∧
    (bk, bo) ∈ new ++ Rb ∧ bo.IsDictOf (PySem.intKind pw w) kvs ∧ (bk == sysModules) = false ∧ Bk w (new ++ Rb) kvs (cont V.accs)
theorem AllPost.el {w : World} {V0 : StV} {rest Rb : Led} {gs : List (Int × Int)} (M : Value → Led → Prop)
    (h : ∀ (V : StV) (new : Led) (kvs : List (Int × Value)) (bk : Addr) (bo : Obj) (t : Tok) (R : Addr), WF w V (new ++ rest) → Inv V0 V gs gs.length → (R, tupO [.ref bk, .int ((runN (cont V0.accs) gs).2 : Int) t]) ∈ new →
      (bk, bo) ∈ new ++ Rb → bo.IsDictOf (PySem.intKind pw w) kvs → (bk == sysModules) = false → Bk w (new ++ Rb) kvs (cont V.accs) → M (.ref R) (stL w.params V (new ++ rest))) : ∀ r l', AllPost w V0 rest Rb gs r l' → M r l' := by
  rintro r l' ⟨V, new, kvs, bk, bo, t, R, rfl, rfl, a, b, c, d, e, f, g⟩
  exact h V new kvs bk bo t R a b c d e f g
theorem loc_two {m : Str → Option Value} {a b : Str} {v x : Value} (h1 : m a = some v) (h2 : m b = some x) : m = fun y => if y = a then some v else if y = b then some x else m y := by
  funext y
  by_cases e : y = a
  · subst e; rw [if_pos rfl]; exact h1
  · rw [if_neg e]
    by_cases e2 : y = b
    · subst e2; rw [if_pos rfl]; exact h2
    · rw [if_neg e2]
theorem loc_four {m : Str → Option Value} {a b c d : Str} {v x y z : Value} (h1 : m a = some v) (h2 : m b = some x) (h3 : m c = some y) (h4 : m d = some z) : m = fun n => if n = a then some v else if n = b then some x else if n = c then some y else if n = d then some z else m n := by
  have e2 := loc_two h3 h4
  have e1 := loc_two h1 h2
  funext n
  have q1 := congrFun e1 n
  have q2 := congrFun e2 n
  rw [q1]
  by_cases e : n = a
  · rw [if_pos e, if_pos e]
  · rw [if_neg e, if_neg e]
    by_cases e' : n = b
    · rw [if_pos e', if_pos e']
    · rw [if_neg e', if_neg e']; exact q2
theorem st_more3 {P : Params} {V : StV} {r : Led} {x y z : Addr × Obj} {p : Addr × Obj} (h : p ∈ stL P V (x :: y :: z :: r)) : p ∈ x :: y :: z :: stL P V r := by
  rcases List.mem_cons.mp (st_more.mp h) with h | h
  · exact h ▸ .head _
  · rcases List.mem_cons.mp (st_more.mp h) with h | h
    · exact h ▸ .tail _ (.head _)
    · exact .tail _ (.tail _ (st_more.mp h))
theorem WF.more3 {w : World} {V : StV} {r : Led} {a b c : Addr} {oa ob oc : Obj} (H : WF w V r) (f : Fresh3 (stL w.params V r) a b c) : WF w V ((c, oc) :: (b, ob) :: (a, oa) :: r) := by
  obtain ⟨f1, f2, f3⟩ := f
  refine ((H.more (o := oa) fun p hp => Nat.ne_of_lt (allLt_mem.mp f3 p hp)).more (o := ob) fun p hp => ?_).more (o := oc) fun p hp => ?_
  · rcases List.mem_cons.mp (st_more.mp hp) with rfl | hp
    · exact Nat.ne_of_lt f1
    · exact Nat.ne_of_lt (Nat.lt_trans (allLt_mem.mp f3 p hp) f1)
  · rcases List.mem_cons.mp (st_more.mp hp) with rfl | hp
    · exact Nat.ne_of_lt f2
    · rcases List.mem_cons.mp (st_more.mp hp) with rfl | hp
      · exact Nat.ne_of_lt (Nat.lt_trans f1 f2)
      · exact Nat.ne_of_lt (Nat.lt_trans (allLt_mem.mp f3 p hp) (Nat.lt_trans f1 f2))
theorem Inv.alen {V0 V : StV} {gs : List (Int × Int)} {i : Nat} {w : World} {R : Led} {kvs : List (Int × Value)} (I : Inv V0 V gs i) (b : Bk w R kvs (cont V.accs)) : kvs.length ≤ V0.accs.length + i := by
  rw [b.len]
  unfold cont
  rw [List.length_map]
  exact I.na
theorem st_sub {P : Params} {V : StV} {r r' : Led} (h : ∀ p ∈ r, p ∈ r') {p : Addr × Obj} (hp : p ∈ stL P V r) : p ∈ stL P V r' := by
  rw [st_app, List.mem_append] at hp ⊢
  exact hp.imp id (h p)
theorem mem3 {a b c p : Addr × Obj} {r r' : Led} (h : ∀ p ∈ r, p ∈ r') (hp : p ∈ a :: b :: c :: r) : p ∈ a :: b :: c :: r' := by
  simp only [List.mem_cons] at hp ⊢
  rcases hp with q | q | q | q
  · exact .inl q
  · exact .inr (.inl q)
  · exact .inr (.inr (.inl q))
  · exact .inr (.inr (.inr (h p q)))
theorem WF.drop {w : World} {V : StV} {r : Led} : ∀ {pre : Led}, WF w V (pre ++ r) → WF w V r
  | [], H => H
  | (_, _) :: pre, H => WF.drop (pre := pre) H.less.1
theorem turn_fin {w : World} {A : Around} {base g₀ g : Heap} {env : Env} {L L' I : Addr} {oL oI : Obj} {mean : ExcName → Option Value} {mg mb : Str → Option Value} (Z : Gd w A base g₀ env L oL mean mg mb) (T1 : KtsTurn ([env].filterMap (·.frame)) g₀ g)
    {V0 V : StV} {R pre0 pre new rest Rb : Led} {gs : List (Int × Int)} {j : Nat} {m' m₀ : Str → Option Value} {st : List Str} {h : Heap} {s1 : Shared} {tk : Nat} {bk : Addr} {bo : Obj} {kvs : List (Int × Value)} {c : Int} {t : Tok} {Q : Flow → Shared → Prop}
    (hR : R = pre0 ++ (pre ++ (I, oI) :: (new ++ rest))) (H : WF w V R) (F : Fr g L' h m') (N : News g L' h (stL w.params V R)) (off : LocOff st m₀ m') (Iv : Inv V0 V gs (j + 1)) (b1 : m' (Str.ofString "book") = some (.ref bk)) (b2 : m' (Str.ofString "refused") = some (.int c t)) (hc : c = ((runN (cont V0.accs) (gs.take (j + 1))).2 : Int))
    (m1 : (bk, bo) ∈ pre ++ (new ++ Rb)) (m2 : bo.IsDictOf (PySem.intKind pw w) kvs) (m3 : (bk == sysModules) = false) (m4 : Bk w (pre ++ (new ++ Rb)) kvs (cont V.accs)) :
    UnrPost (g₀.hide L) L' s1 I oI (fun m' nx => LocOff st m₀ m' ∧ JAll w L oL V0 rest Rb gs (j + 1) m' nx) Q .next { s1 with heap := h, toks := tk } := by
  subst hR hc
  obtain ⟨F2, sl, N2, ne2⟩ := Z.back T1 F N
  obtain ⟨H1, hI⟩ := wf_mid H.drop
  rw [← List.append_assoc] at m1 m4 H1 hI
  have sub : ∀ p ∈ (pre ++ new) ++ rest, p ∈ pre0 ++ (pre ++ (I, oI) :: (new ++ rest)) := fun p hp => by
    simp only [List.mem_append, List.mem_cons] at hp ⊢
    rcases hp with (h | h) | h <;> simp [h]
  have hIm : (I, oI) ∈ stL w.params V (pre0 ++ (pre ++ (I, oI) :: (new ++ rest))) := st_rest (by simp)
  refine ⟨h, tk, m', (L, lwO oL sl) :: stL w.params V ((pre ++ new) ++ rest), rfl, F2, fun p hp => ?_, fun p hp => ?_, off, V, pre ++ new, kvs, bk, bo, t, sl, b1, b2, rfl, fun p hp => ne2 p (st_sub sub hp), H1, Iv, m1, m2, m3, m4⟩
  · rcases List.mem_cons.mp hp with rfl | hp
    · exact N2 _ (.tail _ hIm)
    · rcases List.mem_cons.mp hp with rfl | hp
      · exact N2 _ (.head _)
      · exact N2 _ (.tail _ (st_sub sub hp))
  · rcases List.mem_cons.mp hp with rfl | hp
    · exact fun q => ne2 _ hIm q.symm
    · exact hI p hp
set_option maxHeartbeats 16000000 in
theorem all_con {w : World} (V0 : StV) (rest : Led) (H0 : WF w V0 rest) (hr0 : V0.rows = []) (ht0 : V0.touched = []) (hn0 : ∀ x ∈ V0.accs, 0 ≤ x.bal) (he0 : ∀ z ∈ cont V0.accs, z.2.emp = false) (h8 : V0.accs.length ≤ 8)
    (Rb : Led) (hRb : ∀ p ∈ Rb, p ∈ rest) (bk : Addr) (bo : Obj) (kvs : List (Int × Value)) (hbm : (bk, bo) ∈ Rb) (hbo : bo.IsDictOf (PySem.intKind pw w) kvs) (hbn : (bk == sysModules) = false) (hbb : Bk w Rb kvs (cont V0.accs))
    (ga : Addr) (gvs : List Value) (gn : Nat) (gs : List (Int × Int)) (hgm : (ga, PySem.W.listOf gvs.toArray gn) ∈ rest) (hg : GfA rest gvs gs) (hg8 : gvs.length ≤ 8) :
    ConS w 486 [.ref V0.st, .ref bk, .ref ga] 60 1000 (stL w.params V0 rest) (AllPost w V0 rest Rb gs) := by
  intro mean mg mb dp un gd cn cs a ccd cl A₀ base h₀ L m s Q E B F X N T hk hd hu ret
  refine wpAny_call ?_
  k_dflt (refine' code_defG ?k1 ?k2 ?k3 ?k4 ?k5 ?kA ?kF ?kK ?k6 ?k7 ?k8 ?k9 ?kB ?_ ?c2 ?c3 ?c4 ?c5; (case kA => exact rfl); (case kF => exact rfl); (case kK => first | exact rfl | assumption); (case k1 => k_asm); (case k2 => k_asm); (case k3 => k_asm); (case k4 => k_asm); (case k5 => k_asm); (case k6 => k_is); (case k7 => k_is); (case k8 => k_room); (case k9 => exact BindsTo.of_eq rfl); (case c5 => decide); (case kB => exact locs rfl); (case c2 => exact rfl); (case c3 => exact rfl); (case c4 => exact rfl); k_whole)
  intro g₀ oL sl0 L' h₁ Z F' N' ne0 lt0 X' T'
  (try dsimp only)
  (try k_fold)
  k_steps
  unfold Halt
  have hgm0 : (ga, PySem.W.listOf gvs.toArray gn) ∈ stL w.params V0 rest := st_rest hgm
  k_dflt (refine For_rangeL [Str.ofString "at", Str.ofString "home", Str.ofString "amount", Str.ofString "due", Str.ofString "mark", Str.ofString "is_taken", Str.ofString "fault", Str.ofString "book", Str.ofString "refused"] (by k_asm) (by rfl) (by rfl) (by rfl) ?_)
  k_steps
  rename_i hx tkx t1 u1 v1 hr Fx Nx hxk
  refine ⟨_, _, _, _, _, gvs.length, _, JAll w L oL V0 rest Rb gs, rfl, rfl, hr, rfl, by omega, Fx, Nx, ?_, ?_, ?_⟩
  · exact ⟨V0, [], kvs, bk, bo, _, sl0, rfl, rfl, rfl, ne0, H0, Inv.zero hr0 hn0 he0, hbm, hbo, hbn, hbb⟩
  · intro j u nx I oI t h2 tk2 hj hlo hJ hI hIn F2 N2
    k_fold
    clear Fx Nx hxk hr
    obtain ⟨V, new, kvs1, bk1, bo1, tc, sl, hb1, hb2, rfl, hnL, H, Iv, m1, m2, m3, m4⟩ := hJ
    have hs1 := hlo (Str.ofString "state") rfl
    have hs2 := hlo (Str.ofString "gifts") rfl
    have hs3 : u (Str.ofString "state") = some (.ref V.st) := by rw [Iv.st]; exact hs1
    have hs4 : u (Str.ofString "gifts") = some (.ref ga) := hs2
    have eu := loc_four hb1 hb2 hs3 hs4
    rw [eu] at F2
    have hlo2 := hlo
    rw [eu] at hlo2
    clear eu hs1 hs2
    obtain ⟨v, hv⟩ : ∃ v, gvs[j]? = some v := ⟨_, List.getElem?_eq_getElem hj⟩
    obtain ⟨⟨home, amt⟩, hgj, Tg, th, ta, rfl, hTg⟩ := hg.at_ j v hv
    obtain ⟨g, T1, K, F3, N3, X3, T3, D3⟩ := Z.to F2 N2 (.tail _ (.head _))
    have H1 : WF w V ((I, oI) :: (new ++ rest)) := H.more fun p hp => hI p (.tail _ hp)
    have N4 := N3 (stL w.params V ((I, oI) :: (new ++ rest))) (fun p hp => by
      rcases List.mem_cons.mp (st_more.mp hp) with rfl | hp
      · exact .head _
      · exact .tail _ (.tail _ hp)) (fun p hp => by
      rcases List.mem_cons.mp (st_more.mp hp) with rfl | hp
      · exact fun q => hI (L, lwO oL sl) (.head _) q.symm
      · exact hnL p hp)
    clear F2 N2 N3
    generalize hR1 : (I, oI) :: (new ++ rest) = R1 at H1 N4
    have mr : ∀ p ∈ rest, p ∈ R1 := fun p hp => by rw [← hR1]; exact .tail _ (List.mem_append_right _ hp)
    have mn : ∀ p ∈ new ++ rest, p ∈ R1 := fun p hp => by rw [← hR1]; exact .tail _ hp
    have mb : ∀ p ∈ new ++ Rb, p ∈ R1 := fun p hp => mn p ((List.mem_append.mp hp).elim (fun q => List.mem_append_left _ q) (fun q => List.mem_append_right _ (hRb p q)))
    have hgm1 : (ga, PySem.W.listOf gvs.toArray gn) ∈ stL w.params V R1 := st_rest (mr _ hgm)
    have hTg1 : (Tg, tupO [.int home th, .int amt ta]) ∈ stL w.params V R1 := st_rest (mr _ hTg)
    k_steps
    k_dflt (refine item_listL (News.isList (by k_asm) (by k_mem)) (Int.natCast_nonneg _) (by omega) (by first | exact hv | simpa using hv) ?_)
    k_steps
    unfold Halt
    have hkl := Iv.alen m4
    have hna := Iv.na
    have hnt := Iv.nt
    have hnr := Iv.nr
    have hna16 : V.accs.length ≤ 16 := by omega
    have hk16 : kvs1.length ≤ 16 := by omega
    have hnr24 : V.rows.length ≤ 24 := by omega
    have htl : V.touched.length ≤ 16 := by rw [ht0] at hnt; simp at hnt; omega
    k_dflt (refine Con.useK (given_con (stL w.params V R1) (new ++ Rb) (fun p hp => st_rest (mb p hp)) bk1 bo1 kvs1 (cont V.accs) home amt th ta (st_rest (mb _ m1)) m2 m3 (Nat.lt_of_le_of_lt hk16 (by decide)) m4) GivPost.el (by k_asm) (by k_asm) (by k_asm) (by k_asm) (fun p hp => hp) (by k_asm) (by first | exact rfl | assumption) (by walk_at "DEP") (by walk_at "UNI") ?_)
    refine ⟨fun hgv h5 tk5 F5 N5 => ?_, fun hgv D S Tt oD oS oT kvs2 hfr hoD hnD hk2 hB2 h5 tk5 F5 N5 => ?_⟩
    rotate_left
    · have H2 : WF w V ((Tt, oT) :: (S, oS) :: (D, oD) :: R1) := H1.more3 hfr
      have N6 : News g L' h5 (stL w.params V ((Tt, oT) :: (S, oS) :: (D, oD) :: R1)) := News.sub N5 fun p hp => st_more3 hp
      clear N5
      generalize hR2 : (Tt, oT) :: (S, oS) :: (D, oD) :: R1 = R2 at H2 N6
      have q1 : (V.st, instObj 439 V.ds) ∈ stL w.params V R2 := .head _
      have q2 : (V.ds, stO w.params V) ∈ stL w.params V R2 := .tail _ (.head _)
      k_steps
      unfold Halt
      k_dflt (refine Con.useM (mark_con V R2 H2) (by k_asm) (by k_asm) (by k_asm) (by k_asm) (fun p hp => hp) (by k_asm) (by first | exact rfl | assumption) (by walk_at "DEP") (by walk_at "UNI") ?_)
      intro h7 tk7 t7 F7 N7
      k_steps
      unfold Halt
      have Nw := News.sub ‹News g L' _ (_ :: _ :: _ :: stL w.params V R2)› (fun p hp => gift_sub2 hp)
      k_dflt (refine withdraw_at V R2 H2 Iv.nn (Nat.le_trans hna16 (by decide)) (Nat.le_trans htl (by decide)) (Nat.le_trans hnr24 (by decide)) (by k_asm) (by k_asm) (by k_asm) Nw (by k_asm) (by assumption) (by assumption) (by first | exact rfl | assumption) (by walk_at "DEP") (by walk_at "UNI") ?_ (fun hnt => absurd (giv_taken.mp hgv) hnt))
      intro htk o1 o2 r8 h8 tk8 l8 H8 P8 F8 N8
      obtain ⟨V9, -, rfl, H9, Iv9, hc9, hcnt⟩ := Iv.take H8 hgj htk P8
      rw [← hc9] at hB2
      have hD2 : (D, oD) ∈ R2 := by rw [← hR2]; exact .tail _ (.tail _ (.head _))
      obtain ⟨hkk, hbb9⟩ := Bk.hbb (hB2.mono (l' := R2) (fun p hp => by rw [← hR2]; exact mem3 mb hp))
      have hna9 := Iv9.na
      have hk9 := Iv9.alen hB2
      have e9 : V9.st = V.st := Iv9.st.trans Iv.st.symm
      have C9 := is_so_con V9 _ H9 D oD kvs2 (.tail _ (.tail _ hD2)) hoD hnD (by omega) (by omega) hkk (fun k v hv => by
        obtain ⟨x, q1, q2⟩ := hbb9 k v hv
        exact ⟨x, q1, q2.mono fun p hp => .tail _ (.tail _ hp)⟩)
      rw [e9] at C9
      k_steps
      unfold Halt
      k_dflt (refine Con.useB C9 (by k_asm) (by k_asm) (by k_asm) (by k_asm) (fun p hp => hp) (by k_asm) (by first | exact rfl | assumption) (by walk_at "DEP") (by walk_at "UNI") ?_)
      intro h10 tk10 F10 N10
      k_steps
      subst hR2 hR1
      exact turn_fin Z T1 (pre0 := [_, _]) (pre := [_, _, _]) rfl H9 F10 N10 (by
        repeat (first | exact hlo2 | refine LocOff.put (by decide +kernel) ?_ | refine LocOff.over (by decide +kernel) ?_)) Iv9 rfl rfl (by rw [hcnt]) (.tail _ (.tail _ (.head _))) hoD hnD hB2
    · have q1 : (V.st, instObj 439 V.ds) ∈ stL w.params V R1 := .head _
      have q2 : (V.ds, stO w.params V) ∈ stL w.params V R1 := .tail _ (.head _)
      k_steps
      unfold Halt
      k_dflt (refine Con.useM (mark_con V R1 H1) (by k_asm) (by k_asm) (by k_asm) (by k_asm) (fun p hp => hp) (by k_asm) (by first | exact rfl | assumption) (by walk_at "DEP") (by walk_at "UNI") ?_)
      intro h7 tk7 t7 F7 N7
      k_steps
      unfold Halt
      have Nw := News.sub ‹News g L' _ (_ :: _ :: _ :: stL w.params V R1)› (fun p hp => gift_sub2 hp)
      k_dflt (refine withdraw_at V R1 H1 Iv.nn (Nat.le_trans hna16 (by decide)) (Nat.le_trans htl (by decide)) (Nat.le_trans hnr24 (by decide)) (by k_asm) (by k_asm) (by k_asm) Nw (by k_asm) (by assumption) (by assumption) (by first | exact rfl | assumption) (by walk_at "DEP") (by walk_at "UNI") (fun htk => absurd (giv_taken.mpr htk) hgv) ?_)
      intro hnt G e d ke ue ne h8 tk8 FG UG RG
      dsimp only
      k_dflt (refine caughtD (x := Str.ofString "BlockFault") (C := 51) RG FG K UG Z.X Z.T D3 T1 (by k_is) (by first | rfl | kernel_rfl) ?_)
      intro h9 g9 oe ws tk9 T9 F9 c1 c2 c3 N9 K9 X9 TT9 D9
      k_steps
      k_dflt (refine get_exc (C := 51) (d := d) (es := [ent w.params (Str.ofString "word") ke (.str (Str.ofString "withdrawal") ue)]) X9 (by first | rfl | kernel_rfl) (by k_is) (by k_is) (by first | rfl | k_is | kernel_rfl) (by k_is) (by rfl) (by rfl) (by k_asm) (by k_asm) (by k_mem) (by k_mem) c1 c2 c3 ?_)
      intro tka
      have q1 : (V.st, instObj 439 V.ds) ∈ stL w.params V R1 := .head _
      have q2 : (V.ds, stO w.params V) ∈ stL w.params V R1 := .tail _ (.head _)
      k_steps
      unfold Halt
      k_dflt (refine Con.useM (mark_con V R1 H1) (by k_asm) (by k_asm) (by k_asm) (by k_asm) (fun p hp => .tail _ (.tail _ hp)) (by k_asm) (by first | exact rfl | assumption) (by walk_at "DEP") (by walk_at "UNI") ?_)
      intro h10 tk10 t10 F10 N10
      k_steps
      · exfalso; omega
      unfold Halt
      obtain ⟨Iv9, hcnt⟩ := Iv.skip hgj hgv
      obtain ⟨hkk, hbb9⟩ := Bk.hbb m4
      have C9 := is_so_con V R1 H1 bk1 bo1 kvs1 (mb _ m1) m2 m3 (Nat.lt_of_le_of_lt hk16 (by decide)) (Nat.lt_of_le_of_lt hna16 (by decide)) hkk (fun k v hv => by
        obtain ⟨x, q1, q2⟩ := hbb9 k v hv
        exact ⟨x, q1, q2.mono mb⟩)
      k_dflt (refine Con.useB C9 (by k_asm) (by k_asm) (by k_asm) (by k_asm) (fun p hp => hp) (by k_asm) (by first | exact rfl | assumption) (by walk_at "DEP") (by walk_at "UNI") ?_)
      intro h11 tk11 F11 N11
      k_steps
      subst hR1
      exact turn_fin Z T9 (pre0 := []) (pre := []) rfl H1 F11 N11 (by
        repeat (first | exact hlo2 | refine LocOff.put (by decide +kernel) ?_ | refine LocOff.over (by decide +kernel) ?_)) Iv9 rfl rfl (by omega) m1 m2 m3 m4
  · intro u nx h2 tk2 hlo hJ F2 N2
    (try k_fold)
    clear Fx Nx hxk hr
    obtain ⟨V, new, kvs1, bk1, bo1, tc, sl, hb1, hb2, rfl, hnL, H, Iv, m1, m2, m3, m4⟩ := hJ
    have et : gs.take gvs.length = gs := by rw [hg.len, List.take_length]
    rw [et] at hb2
    rw [hg.len] at Iv
    have eu := loc_two hb1 hb2
    rw [eu] at F2
    clear eu
    k_steps
    show LeaveG h₀ L m g₀ oL _ _ _
    refine ⟨L', _, sl, stL w.params V ((_, _) :: (new ++ rest)), by k_asm, News.sub (by k_asm) (fun p hp => ?_), fun p hp => ?_, fun Fh Nh => ret _ _ _ _ Fh Nh ⟨V, (_, _) :: new, kvs1, bk1, bo1, tc, _, rfl, rfl, H.more fun p hp => Nat.ne_of_lt (allLt_mem.mp (by assumption) p hp), Iv, .head _, .tail _ m1, m2, m3, m4.mono fun p hp => .tail _ hp⟩⟩
    · rcases List.mem_cons.mp hp with rfl | hp
      · exact .tail _ (.head _)
      · rcases List.mem_cons.mp (st_more.mp hp) with rfl | hp
        · exact .head _
        · exact .tail _ (.tail _ hp)
    · rcases List.mem_cons.mp (st_more.mp hp) with rfl | hp
      · exact Nat.ne_of_gt (by assumption)
      · exact hnL p hp
theorem rows_12 : True := by
  trivial
-- PART 72a: law's body from other.end() on
theorem loc_more {m m' : Str → Option Value} {a : Str} {v : Value} (h : m a = some v) (e : m = m') : m = fun y => if y = a then some v else m' y := by
  funext y
  by_cases q : y = a
  · subst q; rw [if_pos rfl]; exact h
  · rw [if_neg q, ← e]
theorem st_pull {P : Params} {V2 V3 : StV} {d : Addr × Obj} {n l : Led} : (stL P V2 (d :: stL P V3 (n ++ l))).Perm (d :: stL P V3 (n ++ stL P V2 l)) := by
  rw [st_app P V2 (d :: _), st_app P V3 (n ++ l), st_app P V3 (n ++ stL P V2 l), st_app P V2 l]
  refine List.perm_middle.trans (List.Perm.cons _ ?_)
  exact (List.perm_append_comm_assoc _ _ _).trans (List.Perm.append_left _ (List.perm_append_comm_assoc _ _ _))
theorem st_pull2 {P : Params} {V3 V5 : StV} {d : Addr × Obj} {n x : Led} : (stL P V5 (n ++ d :: stL P V3 x)).Perm (stL P V3 (stL P V5 (n ++ d :: x))) := by
  rw [st_app P V5 (n ++ d :: stL P V3 x), st_app P V3 (stL P V5 _), st_app P V3 x, st_app P V5 (n ++ d :: x)]
  have q : ∀ A B : Led, (A ++ (n ++ d :: (B ++ x))).Perm (B ++ (A ++ (n ++ d :: x))) := fun A B => by
    refine List.Perm.trans (List.Perm.append_left _ ?_) (List.perm_append_comm_assoc _ _ _)
    refine List.Perm.trans (List.Perm.append_left _ ?_) (List.perm_append_comm_assoc _ _ _)
    exact List.perm_middle.symm
  exact q _ _
theorem WF.re {w : World} {V : StV} {r r' : Led} (H : WF w V r) (h : (keys (stL w.params V r')).Nodup) : WF w V r' :=
  ⟨H.oa, H.ot, H.od, H.na, H.nt, H.nd, H.so, H.ns, H.sa, H.st, H.sr, h⟩
theorem nd_perm {a b : Led} (h : a.Perm b) (n : (keys b).Nodup) : (keys a).Nodup := (h.map _).nodup_iff.mpr n
theorem nd_cons {D : Addr} {o : Obj} {l : Led} (h : ∀ p ∈ l, @LT.lt Nat _ p.1 D) (n : (keys l).Nodup) : (keys ((D, o) :: l)).Nodup := by
  unfold keys at n ⊢
  rw [List.map_cons, List.nodup_cons]
  refine ⟨fun q => ?_, n⟩
  obtain ⟨p, hp, e⟩ := List.mem_map.mp q
  exact Nat.ne_of_lt (h p hp) e
theorem app_drop {p d : Addr × Obj} {n a b : Led} (h : ∀ q ∈ b, q ∈ a) (hp : p ∈ n ++ b) : p ∈ n ++ d :: a := by
  rcases List.mem_append.mp hp with q | q
  · exact List.mem_append_left _ q
  · exact List.mem_append_right _ (.tail _ (h p q))
set_option maxHeartbeats 16000000 in
theorem law_rest3 {w : World} {mean : ExcName → Option Value} {mg mb : Str → Option Value} {fa : Addr} {ccd : Value} {base h₀ : Heap} {L : Addr} {m₁ : Str → Option Value} {s : Shared} {Q : Flow → Shared → Prop} {E : Value → Shared → Prop}
    {V3 V4 : StV} {d : Addr × Obj} {new3 new4 l1 r3 : Led} {tm : Tok} {b4 Db : Addr} {o4 oDb : Obj} {kv4 kvb : List (Int × Value)} {c0 : List (Int × Ct)} {os : List Op}
    (B : Below callerA base [] h₀) (F : Fr h₀ L s.heap m₁) (hm1 : m₁ (Str.ofString "other") = some (.ref V4.st)) (hm2 : m₁ (Str.ofString "state") = some (.ref V3.st)) (hm3 : m₁ (Str.ofString "mark") = some (.int 0 tm)) (hm4 : m₁ (Str.ofString "turned") = some (.ref b4)) (hm5 : m₁ (Str.ofString "book") = some (.ref Db))
    (X : (Mine.hd.heap_39 w.params).In h₀) (N : News h₀ L s.heap (stL w.params V4 (new4 ++ d :: stL w.params V3 (new3 ++ l1)))) (T : Tp mean mg mb h₀)
    (H4 : WF w V4 (new4 ++ d :: stL w.params V3 (new3 ++ l1))) (H3 : WF w V3 r3) (h4 : V4.touched.length < 64) (ha4 : V4.accs.length < 64) (hke : (cont V4.accs).filter (keepC V4.touched) = (cont V4.accs).filter fun z => !z.2.emp)
    (hr : RowsAre V3.rows os) (hu : Undo (cont V3.accs, V3.touched) os (c0, []))
    (p4 : (b4, o4) ∈ new4 ++ l1) (d4 : o4.IsDictOf (PySem.intKind pw w) kv4) (n4 : (b4 == sysModules) = false) (B4 : Bk w (new4 ++ l1) kv4 (cont V4.accs))
    (pb : (Db, oDb) ∈ l1) (db : oDb.IsDictOf (PySem.intKind pw w) kvb) (nb : (Db == sysModules) = false) (Bb : Bk w l1 kvb c0) (hb : kvb.length < 64)
    (ret : ∀ h' tk' m', Fr h₀ L h' m' → Q (.ret (.bool true)) { s with heap := h', toks := tk' }) :
    wpAny (model pw w) (callerA.deeper (envOfC (Str.ofString "law") hd.sC_37_0_false L fa ccd)) (execs (hd.sB_37_0_false.drop 15) (envOfC (Str.ofString "law") hd.sC_37_0_false L fa ccd)) Q E s := by
  delta hd.sB_37_0_false hd.sC_37_0_false
  simp only [List.drop]
  have em := loc_more hm5 (loc_four hm1 hm2 hm3 hm4)
  rw [em] at F
  clear em
  have hl4 : (cont V4.accs).length = V4.accs.length := by unfold cont; rw [List.length_map]
  have hk4 : kv4.length < 64 := by rw [B4.len, hl4]; exact ha4
  have q1 : (V4.st, instObj 439 V4.ds) ∈ stL w.params V4 (new4 ++ d :: stL w.params V3 (new3 ++ l1)) := .head _
  have q2 : (V4.ds, stO w.params V4) ∈ stL w.params V4 (new4 ++ d :: stL w.params V3 (new3 ++ l1)) := .tail _ (.head _)
  k_steps
  unfold Halt
  k_dflt (refine Con.useK (end_con V4 _ H4 h4) EndPost.el (by k_asm) (by k_asm) (by k_asm) (by k_asm) (fun p hp => hp) (by k_asm) (by first | exact rfl | assumption) (by walk_at "DEP") (by walk_at "UNI") ?_)
  clear q1 q2
  intro V5 H5 e5 c5 _ _ h5 tk5 F5 N5
  rw [hke] at c5
  rw [← e5] at F5 hm1
  have pp := st_pull2 (P := w.params) (V3 := V3) (V5 := V5) (d := d) (n := new4) (x := new3 ++ l1)
  have H6 : WF w V3 (stL w.params V5 (new4 ++ d :: (new3 ++ l1))) := H3.re (nd_perm pp.symm H5.ap)
  have N6 := News.sub N5 fun p hp => pp.mem_iff.mpr hp
  clear N5 N
  have q1 : (V3.st, instObj 439 V3.ds) ∈ stL w.params V3 (stL w.params V5 (new4 ++ d :: (new3 ++ l1))) := .head _
  have q2 : (V3.ds, stO w.params V3) ∈ stL w.params V3 (stL w.params V5 (new4 ++ d :: (new3 ++ l1))) := .tail _ (.head _)
  k_steps
  unfold Halt
  (try k_fold)
  k_dflt (refine Con.use (back_con V3 _ H6 os (c0, []) hr hu tm) (by k_asm) (by k_asm) (by k_asm) (by k_asm) (fun p hp => hp) (by k_asm) (by first | exact rfl | assumption) (by walk_at "DEP") (by walk_at "UNI") ?_)
  clear q1 q2
  intro r7 h7 tk7 l7 F7 N7 P7
  obtain ⟨accs, ts, oa, ot, nj, rfl, rfl, H7, c7⟩ := P7
  have c7' : cont (V3.put accs ts [] oa ot nj).accs = c0 := congrArg Prod.fst c7
  have e7 : (V3.put accs ts [] oa ot nj).st = V3.st := rfl
  generalize V3.put accs ts [] oa ot nj = V6 at N7 H7 c7' e7
  rw [← e7] at F7
  clear N6 c7
  have hs : ∀ p ∈ new4 ++ l1, p ∈ new4 ++ d :: (new3 ++ l1) := fun p hp => app_drop (fun q hq => List.mem_append_right _ hq) hp
  have pb2 : (Db, oDb) ∈ new4 ++ d :: (new3 ++ l1) := hs _ (List.mem_append_right _ pb)
  have Bb2 := Bb.mono (l' := new4 ++ d :: (new3 ++ l1)) fun p hp => hs _ (List.mem_append_right _ hp)
  have p42 := hs _ p4
  have B42 := B4.mono hs
  generalize new4 ++ d :: (new3 ++ l1) = X6 at N7 H7 pb2 Bb2 p42 B42
  k_steps
  unfold Halt
  k_dflt (refine Con.useK (left_con (stL w.params V6 (stL w.params V5 X6)) X6 (fun p hp => st_rest (st_rest hp)) b4 o4 kv4 _ (st_rest (st_rest p42)) d4 n4 hk4 B42) LeftPost.el (by k_asm) (by k_asm) (by k_asm) (by k_asm) (fun p hp => hp) (by k_asm) (by first | exact rfl | assumption) (by walk_at "DEP") (by walk_at "UNI") ?_)
  intro D8 o8 kv8 lt8 d8 n8 hk8 B8 h8 tk8 F8 N8
  have H8 : WF w V6 ((D8, o8) :: stL w.params V5 X6) := H7.more fun p hp => Nat.ne_of_lt (allLt_mem.mp lt8 p hp)
  have pq := st_pull (P := w.params) (V2 := V5) (V3 := V6) (d := (D8, o8)) (n := []) (l := X6)
  have H9 : WF w V5 ((D8, o8) :: stL w.params V6 X6) := H5.re (nd_perm pq (nd_cons (fun p hp => allLt_mem.mp lt8 p hp) H7.ap))
  have N9 := News.sub N8 fun p hp => pq.mem_iff.mp hp
  clear N8 N7
  have C9 := is_so_con V5 _ H9 D8 o8 kv8 (.head _) d8 n8 (by omega) (by have q1 := cont_len c5; have q := List.length_filter_le (fun z : Int × Ct => !z.2.emp) (cont V4.accs); omega) (Bk.hbb (accs := V5.accs) (by rw [c5]; exact B8)).1 (fun k v hv => by
    obtain ⟨x, q1, q2⟩ := (Bk.hbb (accs := V5.accs) (by rw [c5]; exact B8)).2 k v hv
    exact ⟨x, q1, q2.mono fun p hp => .tail _ (st_rest hp)⟩)
  k_steps
  unfold Halt
  k_dflt (refine Con.useB C9 (by k_asm) (by k_asm) (by k_asm) (by k_asm) (fun p hp => hp) (by k_asm) (by first | exact rfl | assumption) (by walk_at "DEP") (by walk_at "UNI") ?_)
  intro h10 tk10 F10 N10
  have N11 : News h₀ L h10 (stL w.params V6 ((D8, o8) :: stL w.params V5 X6)) := News.sub N10 fun p hp => pq.mem_iff.mpr (st_more.mp hp)
  clear N9 N10
  have C11 := is_so_con V6 _ H8 Db oDb kvb (.tail _ (st_rest pb2)) db nb hb (by have := Bb.len; have := cont_len c7'; omega) (Bk.hbb (accs := V6.accs) (by rw [c7']; exact Bb2)).1 (fun k v hv => by
    obtain ⟨x, q1, q2⟩ := (Bk.hbb (accs := V6.accs) (by rw [c7']; exact Bb2)).2 k v hv
    exact ⟨x, q1, q2.mono fun p hp => .tail _ (st_rest hp)⟩)
  k_steps
  unfold Halt
  k_dflt (refine Con.useB C11 (by k_asm) (by k_asm) (by k_asm) (by k_asm) (fun p hp => hp) (by k_asm) (by first | exact rfl | assumption) (by walk_at "DEP") (by walk_at "UNI") ?_)
  intro h12 tk12 F12 N12
  k_steps
  exact ret _ _ _ (by assumption)
theorem rows_13 : True := by
  k_with "CompSrc" => refine halt_ ?_
  k_with "subscriptTail Name Slice ref ref" => refine halt_ ?_
  k_with "execs cons" => ((with_reducible show wpAny _ _ (execs (Stmt.Expr _ _ :: Stmt.Expr _ _ :: _) _) _ _ _); refine halt_ ?_)
  trivial
-- PART 72: law's body from the gifts on
theorem nd11 {a b c d e f g h i j k : Nat} (h1 : b < a) (h2 : c < b) (h3 : d < c) (h4 : e < d) (h5 : f < e) (h6 : g < f) (h7 : h < g) (h8 : i < h) (h9 : j < i) (h10 : k < j) : [h, i, a, b, c, d, e, f, g, j, k].Nodup :=
  (ndp ((List.reverse_perm [a, b, c, d, e, f, g, h, i, j, k]).trans (List.perm_append_comm_assoc [a, b, c, d, e, f, g] [h, i] [j, k])) (inc_nd (x := k) (l := [j, i, h, g, f, e, d, c, b, a]) ⟨h10, h9, h8, h7, h6, h5, h4, h3, h2, h1, trivial⟩)).1
theorem drop8 {a b c d e f g x y z p : Addr × Obj} {tl : Led} (hp : p ∈ y :: z :: a :: b :: c :: d :: e :: f :: g :: tl) : p ∈ a :: b :: c :: d :: e :: f :: g :: x :: y :: z :: tl := by
  have h1 : p ∈ [a, b, c, d, e, f, g] ++ ([y, z] ++ tl) := (List.perm_append_comm_assoc [y, z] [a, b, c, d, e, f, g] tl).mem_iff.mp hp
  rcases List.mem_append.mp h1 with h | h
  · exact List.mem_append_left _ h
  · exact List.mem_append_right [a, b, c, d, e, f, g] (.tail _ h)
theorem GfA.snoc {gl gl' : Led} {ys : List Value} {gs : List (Int × Int)} {T : Addr} {home amt : Int} {th ta : Tok} (h : GfA gl ys gs) (hs : ∀ p ∈ gl, p ∈ gl') (hT : (T, tupO [.int home th, .int amt ta]) ∈ gl') : GfA gl' (ys ++ [.ref T]) (gs ++ [(home, amt)]) := by
  refine ⟨by rw [List.length_append, List.length_append, h.len]; rfl, fun j v hj => ?_⟩
  rcases Nat.lt_trichotomy j ys.length with hlt | heq | hgt
  · rw [List.getElem?_append_left hlt] at hj
    obtain ⟨g, e1, T', th', ta', e2, e3⟩ := h.at_ j v hj
    exact ⟨g, by rw [List.getElem?_append_left (by rw [← h.len]; exact hlt)]; exact e1, T', th', ta', e2, hs _ e3⟩
  · subst heq
    rw [List.getElem?_append_right (Nat.le_refl _)] at hj
    simp at hj
    exact ⟨(home, amt), by rw [List.getElem?_append_right (by rw [h.len]; exact Nat.le_refl _), h.len, Nat.sub_self]; rfl, T, th, ta, hj.symm, hT⟩
  · rw [List.getElem?_eq_none (by simp; omega)] at hj
    cases hj
theorem gift_sub3 {a b c d e p : Addr × Obj} {tl : Led} (h : p ∈ d :: e :: a :: b :: c :: tl) : p ∈ a :: b :: c :: d :: e :: tl :=
  (List.perm_append_comm_assoc [d, e] [a, b, c] tl).mem_iff.mp h
theorem gift_sub4 {a b c d e f p : Addr × Obj} {tl : Led} (h : p ∈ a :: b :: c :: d :: e :: f :: tl) : p ∈ d :: e :: f :: a :: b :: c :: tl :=
  (List.perm_append_comm_assoc [a, b, c] [d, e, f] tl).mem_iff.mp h
theorem nd_ins {a b c : Addr} {o1 o2 o3 o4 o5 : Obj} {l : Led} (h : (keys ((a, o1) :: (b, o2) :: l)).Nodup) (h1 : @LT.lt Nat _ a c) (h2 : @LT.lt Nat _ b c) (h3 : ∀ p ∈ l, @LT.lt Nat _ p.1 c) : (keys ((a, o3) :: (b, o4) :: (c, o5) :: l)).Nodup := by
  unfold keys at h ⊢
  simp only [List.map_cons, List.nodup_cons, List.mem_cons, not_or] at h ⊢
  have hc : c ∉ l.map (·.1) := fun q => by
    obtain ⟨p, hp, e⟩ := List.mem_map.mp q
    exact Nat.ne_of_lt (h3 p hp) e
  exact ⟨⟨h.1.1, Nat.ne_of_lt h1, h.1.2⟩, ⟨Nat.ne_of_lt h2, h.2.1⟩, hc, h.2.2⟩
theorem off1_mem {D : Addr} : ∀ {l : Led}, LCg.Off1 D l → ∀ p ∈ l, @Ne Nat p.1 D
  | [], _, _, h => nomatch h
  | q :: l, o, p, h => by
    rcases List.mem_cons.mp h with rfl | h
    · exact o.1
    · exact off1_mem o.2 p h
theorem GfA.mono {l l' : Led} {ys : List Value} {gs : List (Int × Int)} (h : GfA l ys gs) (hs : ∀ p ∈ l, p ∈ l') : GfA l' ys gs := ⟨h.len, fun j v hj => by
  obtain ⟨g, e1, T', th', ta', e2, e3⟩ := h.at_ j v hj
  exact ⟨g, e1, T', th', ta', e2, hs _ e3⟩⟩
theorem ConS.use {w : World} {f : Addr} {args : List Value} {D U : Nat} {l : Led} {Post : Value → Led → Prop} (C : ConS w f args D U l Post)
    {mean : ExcName → Option Value} {mg mb : Str → Option Value} {dp un : Nat} {gd : Option (List Code)} {cn : Str} {cs : Scope} {a : Addr} {ccd : Value} {cl : List (Str × Addr)} {A₀ : Around} {base h₀ : Heap} {L : Addr}
    {m : Str → Option Value} {s : Shared} {Q E : Value → Shared → Prop} {news : Led}
    (B : Below A₀ base [] h₀) (F : Fr h₀ L s.heap m) (X : (Mine.hd.heap_39 w.params).In h₀) (N : News h₀ L s.heap news) (hs : ∀ p ∈ l, p ∈ news) (T : Tp mean mg mb h₀) (hk : cs.kind = .function) (hdp : dp + D < 600) (hun : un + U < 9000)
    (ret : ∀ r h' tk' l', Fr h₀ L h' m → News h₀ L h' l' → Post r l' → Q r { s with heap := h', toks := tk' }) :
    wpAny (model pw w) (atp none dp un gd cn cs L a ccd cl []) (call (.ref f) args) Q E s := by
  unfold ConS at C
  exact C mean mg mb dp un gd cn cs a ccd cl A₀ base h₀ L m s Q E B F X (News.sub N hs) T hk hdp hun ret

theorem ConS.useK {w : World} {f : Addr} {args : List Value} {D U : Nat} {l : Led} {Post : Value → Led → Prop} {K : (Value → Led → Prop) → Prop} (C : ConS w f args D U l Post) (el : ∀ M : Value → Led → Prop, K M → ∀ r l', Post r l' → M r l')
    {mean : ExcName → Option Value} {mg mb : Str → Option Value} {dp un : Nat} {gd : Option (List Code)} {cn : Str} {cs : Scope} {a : Addr} {ccd : Value} {cl : List (Str × Addr)} {A₀ : Around} {base h₀ : Heap} {L : Addr}
    {m : Str → Option Value} {s : Shared} {Q E : Value → Shared → Prop} {news : Led}
    (B : Below A₀ base [] h₀) (F : Fr h₀ L s.heap m) (X : (Mine.hd.heap_39 w.params).In h₀) (N : News h₀ L s.heap news) (hs : ∀ p ∈ l, p ∈ news) (T : Tp mean mg mb h₀) (hk : cs.kind = .function) (hdp : dp + D < 600) (hun : un + U < 9000)
    (ret : K (fun r l' => ∀ h' tk', Fr h₀ L h' m → News h₀ L h' l' → Q r { s with heap := h', toks := tk' })) :
    wpAny (model pw w) (atp none dp un gd cn cs L a ccd cl []) (call (.ref f) args) Q E s :=
  ConS.use C B F X N hs T hk hdp hun fun r h' tk' l' F' N' P => el _ ret r l' P h' tk' F' N'
theorem st_swap {P : Params} {V1 V2 : StV} {r : Led} : (stL P V1 (stL P V2 r)).Perm (stL P V2 (stL P V1 r)) := by
  rw [st_app P V1 (stL P V2 r), st_app P V2 r, st_app P V2 (stL P V1 r), st_app P V1 r]
  exact List.perm_append_comm_assoc _ _ _
theorem WF.swap {w : World} {V1 V2 : StV} {r r' : Led} (H1 : WF w V1 r') (h : (keys (stL w.params V2 (stL w.params V1 r))).Nodup) : WF w V1 (stL w.params V2 r) :=
  ⟨H1.oa, H1.ot, H1.od, H1.na, H1.nt, H1.nd, H1.so, H1.ns, H1.sa, H1.st, H1.sr, ((st_swap (P := w.params) (V1 := V2) (V2 := V1) (r := r)).map _).nodup_iff.mp h⟩


theorem GfA.reverse {l : Led} {ys : List Value} {gs : List (Int × Int)} (h : GfA l ys gs) : GfA l ys.reverse gs.reverse := by
  refine ⟨by rw [List.length_reverse, List.length_reverse, h.len], fun j v hj => ?_⟩
  have hlt : j < ys.length := by
    have := (List.getElem?_eq_some_iff.mp hj).1
    rwa [List.length_reverse] at this
  rw [List.getElem?_reverse hlt] at hj
  obtain ⟨g, e1, e2⟩ := h.at_ _ v hj
  refine ⟨g, ?_, e2⟩
  rw [List.getElem?_reverse (by rw [← h.len]; exact hlt), ← h.len]
  exact e1
theorem Inv.both {V1 V2 V3 V4 : StV} {gs gs' : List (Int × Int)} (hn : ((cont V1.accs).map (·.1)).Nodup) (e : cont V2.accs = cont V1.accs) (p : gs.Perm gs') (I3 : Inv V1 V3 gs gs.length) (I4 : Inv V2 V4 gs' gs'.length) (h : (runN (cont V1.accs) gs).2 = 0) : (runN (cont V2.accs) gs').2 = 0 ∧ Same (cont V4.accs) (cont V3.accs) := by
  have r3 := I3.run
  have r4 := I4.run
  rw [List.take_length] at r3 r4
  rw [e] at r4 ⊢
  rw [r3, r4]
  exact turn_law hn p h
theorem Inv.kept {V0 V : StV} {gs : List (Int × Int)} {i : Nat} (I : Inv V0 V gs i) : (cont V.accs).filter (keepC V.touched) = (cont V.accs).filter fun z => !z.2.emp := by
  refine List.filter_congr fun z hz => ?_
  unfold keepC
  cases he : z.2.emp with
  | false => simp
  | true => simp [I.em z hz he]
set_option maxHeartbeats 16000000 in
theorem law_rest2 {w : World} {mean : ExcName → Option Value} {mg mb : Str → Option Value} {fa : Addr} {ccd : Value} {base h₀ : Heap} {L wl xl x on : Addr} {m₁ : Str → Option Value} {s : Shared} {Q : Flow → Shared → Prop} {E : Value → Shared → Prop} {cw cm oo : Obj} {vs : List Value} {ns : List Int} {t1 t2 tmo : Tok} {n nn : Nat} {sp st mo : Int} {tl : Led} {kvs : List (Int × Value)} {cs : List (Int × Ct)}
    (B : Below callerA base [] h₀) (F : Fr h₀ L s.heap m₁) (hm1 : m₁ (Str.ofString "ones") = some (.ref on)) (hm2 : m₁ (Str.ofString "setting") = some (.ref x)) (X : (Mine.hd.heap_39 w.params).In h₀)
    (N : News h₀ L s.heap ((wl, wellO xl sp st t1 t2 n) :: (xl, PySem.W.listOf vs.toArray nn) :: tl)) (hc1 : (L + 1, cw) ∈ tl) (hc2 : (L + 1 + 1, cm) ∈ tl) (hcw : cw.data = .cell (some (.ref wl))) (hcm : cm.data = .cell (some (.int mo tmo))) (T : Tp mean mg mb h₀)
    (hi : IntsAre vs ns) (hlen : ns.length ≤ 40) (hsp : 0 ≤ sp) (hsp2 : sp ≤ 100) (hst : 0 ≤ st) (hst2 : st < 101) (hnd : (keys ((wl, wellO xl sp st t1 t2 n) :: (xl, PySem.W.listOf vs.toArray nn) :: tl)).Nodup)
    (ho1 : (on, oo) ∈ tl) (ho2 : oo.IsDictOf (PySem.intKind pw w) kvs) (ho3 : (on == sysModules) = false) (ho4 : Bk w tl kvs cs) (ho5 : kvs.length ≤ 3) (ho6 : (kvs.map (·.1)).Pairwise (· ≤ ·)) (ho7 : ∀ z ∈ cs, 0 ≤ z.2.bal ∧ z.2.bal < 2 ^ 256) (ho8 : ∀ (j : Nat) z, cs[j]? = some z → j + 1 < cs.length → z.2.sl = false)
    (ret : ∀ h' tk' m', Fr h₀ L h' m' → Q (.ret (.bool true)) { s with heap := h', toks := tk' }) :
    wpAny (model pw w) (callerA.deeper (envOfC (Str.ofString "law") hd.sC_37_0_false L fa ccd)) (execs (hd.sB_37_0_false.drop 7) (envOfC (Str.ofString "law") hd.sC_37_0_false L fa ccd)) Q E s := by
  delta hd.sB_37_0_false hd.sC_37_0_false
  simp only [List.drop]
  have em := loc_two hm1 hm2
  rw [em] at F
  clear em
  k_steps
  unfold Halt
  have hne : @Ne Nat wl xl := by
    have q := hnd
    unfold keys at q
    simp only [List.map_cons, List.nodup_cons, List.mem_cons, not_or] at q
    exact q.1.1
  have hnt : ∀ p ∈ tl, p.1 ≠ wl := fun p hp e => by
    have q := hnd
    unfold keys at q
    simp only [List.map_cons, List.nodup_cons, List.mem_cons, not_or] at q
    exact q.1.2 (List.mem_map.mpr ⟨p, hp, e⟩)
  k_dflt (refine LCg.Assign_ListComp_U (F₀ := by k_asm) rfl (by rfl) (by with_unfolding_all rfl) (by decide) (by rfl) (by decide) (by rfl) (by rfl) (by rfl) ?_)
  k_steps
  unfold Halt
  k_dflt (refine Con.useD (draw_con wl xl vs ns sp st 5 t1 t2 _ n nn tl hi hlen hsp (by omega) hst hst2 (by decide) (by decide) hne hnt) (by k_asm) (by k_asm) (by k_asm) (by k_asm) (fun p hp => hp) (by k_asm) (by first | exact rfl | assumption) (by walk_at "DEP") (by walk_at "UNI") ?_)
  intro d5 td5 s1 u1 u2 n1 h1 tk1 a1 a2 b1 c1 F1 N1
  k_steps
  unfold Halt
  refine LCg.CompSrc.range (n := (1 + d5).toNat) rfl (by k_asm) (by k_asm) (by assumption) (small_one (by decide) (by decide) (by omega) (by omega)) (by rw [rangeSize_one, if_pos (by omega)]; omega) (by rw [sizeLine_eq]; omega) (fun g => ?_)
  refine compRest_inv (n := (1 + d5).toNat) (J := fun ys nw => ∃ (sp' st' : Int) (u1' u2' : Tok) (n' : Nat) (gl : Led) (gs : List (Int × Int)), sp' = sp + 1 + 3 * (ys.length : Int) ∧ 0 ≤ st' ∧ st' < 101 ∧ nw = (wl, wellO xl sp' st' u1' u2' n') :: (xl, PySem.W.listOf vs.toArray nn) :: (gl ++ tl) ∧ GfA gl ys gs ∧ (∀ p ∈ gl, p.1 ≠ wl) ∧ (keys ((wl, wellO xl sp' st' u1' u2' n') :: (xl, PySem.W.listOf vs.toArray nn) :: (gl ++ tl))).Nodup) ?_ ?_ _ 0 [] _ (Nat.zero_add _) rfl ⟨sp + 1, s1, u1, u2, n1, [], [], by simp, b1, c1, rfl, ⟨rfl, fun j v h => by simp at h⟩, fun p hp => (List.not_mem_nil hp).elim, hnd⟩
  · intro ys nw v I oI C oC D m₂ h2 tk2 E2 hlt hJ9 hv hC hx F2 N2 off2 ne2
    k_fold
    obtain ⟨sp', st', u1', u2', n', gl, gs, hsp', b2, c2, rfl, hG, hgl, hkd⟩ := hJ9
    have hc1' : (L + 1, cw) ∈ (wl, wellO xl sp' st' u1' u2' n') :: (xl, PySem.W.listOf vs.toArray nn) :: (gl ++ tl) := .tail _ (.tail _ (List.mem_append_right _ hc1))
    have hc2' : (L + 1 + 1, cm) ∈ (wl, wellO xl sp' st' u1' u2' n') :: (xl, PySem.W.listOf vs.toArray nn) :: (gl ++ tl) := .tail _ (.tail _ (List.mem_append_right _ hc2))
    k_steps
    unfold Halt
    have hnt2 : ∀ p ∈ (I, oI) :: (C, oC) :: (D, LCg.lst ys) :: (gl ++ tl), p.1 ≠ wl := fun p hp => by
      rcases List.mem_cons.mp hp with rfl | hp
      · exact Ne.symm off2.1.1
      · rcases List.mem_cons.mp hp with rfl | hp
        · exact Ne.symm off2.1.2.1
        · rcases List.mem_cons.mp hp with rfl | hp
          · exact Ne.symm off2.1.2.2
          · rcases List.mem_append.mp hp with hp | hp
            · exact hgl p hp
            · exact hnt p hp
    k_dflt (refine Con.useK (gift_con wl xl vs ns sp' st' mo u1' u2' tmo n' nn ((I, oI) :: (C, oC) :: (D, LCg.lst ys) :: (gl ++ tl)) hi hlen (by omega) (by omega) b2 c2 hne hnt2) gift_el (by k_asm) (by k_asm) (by k_asm) (by k_asm) (fun p hp => gift_sub3 hp) (by k_asm) (by first | exact rfl | assumption) (by walk_at "DEP") (by walk_at "UNI") ?_)
    intro T4 home amt th ta s4 w1 w2 n4 b4 c4 lw lx lT h4 tk4 F4 N4
    have N5 := News.sub N4 (fun p hp => gift_sub4 hp)
    exact LCg.CompEnd.intro F4 N5 ((wl, _) :: (xl, _) :: (((T4, _) :: gl) ++ tl)) (fun p hp => hp) ⟨off2.1, off2.2.1, ⟨Nat.ne_of_gt lT.1, Nat.ne_of_gt lT.2.1, Nat.ne_of_gt lT.2.2.1⟩, off2.2.2⟩ trivial ⟨_, s4, w1, w2, n4, _, _, by rw [hsp', List.length_append]; simp; omega, b4, c4, rfl, hG.snoc (fun p hp => .tail _ hp) (.head _), fun p hp => by
      rcases List.mem_cons.mp hp with rfl | hp
      · exact Nat.ne_of_gt lw
      · exact hgl p hp, nd_ins hkd lw lx (fun p hp => allLt_mem.mp lT.2.2.2 p hp)⟩
  · rintro ys nw hlen2 ⟨sp', st', u1', u2', n', gl, gs, hsp', b2, c2, rfl, hG, hgl, hkd⟩
    unfold LCg.FinA
    intro D h3 tk3 F3 N3 off3
    have hkl : (keys ((D, LCg.lst ys) :: (wl, wellO xl sp' st' u1' u2' n') :: (xl, PySem.W.listOf vs.toArray nn) :: (gl ++ tl))).Nodup := by
      unfold keys at hkd ⊢
      rw [List.map_cons, List.nodup_cons]
      refine ⟨fun q => ?_, hkd⟩
      obtain ⟨p, hp, e⟩ := List.mem_map.mp q
      exact off1_mem off3 p hp e
    have mtl : ∀ p ∈ tl, p ∈ (D, LCg.lst ys) :: (wl, wellO xl sp' st' u1' u2' n') :: (xl, PySem.W.listOf vs.toArray nn) :: (gl ++ tl) := fun p hp => .tail _ (.tail _ (.tail _ (List.mem_append_right _ hp)))
    have hGa : GfA ((D, LCg.lst ys) :: (wl, wellO xl sp' st' u1' u2' n') :: (xl, PySem.W.listOf vs.toArray nn) :: (gl ++ tl)) ys gs := ⟨hG.len, fun j v hj => by
      obtain ⟨g, e1, T', th', ta', e2, e3⟩ := hG.at_ j v hj
      exact ⟨g, e1, T', th', ta', e2, .tail _ (.tail _ (.tail _ (List.mem_append_left _ e3)))⟩⟩
    obtain ⟨gn, hDl⟩ : ∃ gn, (D, PySem.W.listOf ys.toArray gn) ∈ (D, LCg.lst ys) :: (wl, wellO xl sp' st' u1' u2' n') :: (xl, PySem.W.listOf vs.toArray nn) :: (gl ++ tl) := ⟨_, by show _ ∈ (D, PySem.W.listOf ys.toArray _) :: _; exact .head _⟩
    generalize hl0 : (D, LCg.lst ys) :: (wl, wellO xl sp' st' u1' u2' n') :: (xl, PySem.W.listOf vs.toArray nn) :: (gl ++ tl) = l0 at N3 hkl mtl hGa hDl
    k_steps
    unfold Halt
    k_dflt (refine Con.useK (left_con l0 tl mtl on oo kvs cs (mtl _ ho1) ho2 ho3 (Nat.lt_of_le_of_lt ho5 (by decide)) ho4) LeftPost.el (by k_asm) (by k_asm) (by k_asm) (by k_asm) (fun p hp => hp) (by k_asm) (by first | exact rfl | assumption) (by walk_at "DEP") (by walk_at "UNI") ?_)
    intro Db oDb kvb lDb hDb hnb hlb hBb h5 tk5 F5 N5
    have hk1 : (keys ((Db, oDb) :: l0)).Nodup := by
      unfold keys at hkl ⊢
      rw [List.map_cons, List.nodup_cons]
      refine ⟨fun q => ?_, hkl⟩
      obtain ⟨p, hp, e⟩ := List.mem_map.mp q
      exact Nat.ne_of_lt (allLt_mem.mp lDb p hp) e
    have mtl1 : ∀ p ∈ tl, p ∈ (Db, oDb) :: l0 := fun p hp => .tail _ (mtl p hp)
    have hDb1 : (Db, oDb) ∈ (Db, oDb) :: l0 := .head _
    have hDl1 : (D, PySem.W.listOf ys.toArray gn) ∈ (Db, oDb) :: l0 := .tail _ hDl
    have hGa1 := hGa.mono (l' := (Db, oDb) :: l0) (fun p hp => .tail _ hp)
    generalize hl1 : (Db, oDb) :: l0 = l1 at N5 hk1 mtl1 hDb1 hDl1 hGa1
    k_steps
    unfold Halt
    k_dflt (refine Con.useK (state_con l1 hk1 x on oo kvs cs (mtl1 _ ho1) ho2 ho3 (Nat.le_trans ho5 (by decide)) (ho4.mono mtl1) ho6 ho7 ho8) StatePost.el (by k_asm) (by k_asm) (by k_asm) (by k_asm) (fun p hp => hp) (by k_asm) (by first | exact rfl | assumption) (by walk_at "DEP") (by walk_at "UNI") ?_)
    intro V1 H1 hc1v ht1 hr1 h6 tk6 F6 N6
    k_steps
    unfold Halt
    k_dflt (refine Con.useK (state_con (stL w.params V1 l1) H1.ap x on oo kvs cs (st_rest (mtl1 _ ho1)) ho2 ho3 (Nat.le_trans ho5 (by decide)) (ho4.mono fun p hp => st_rest (mtl1 p hp)) ho6 ho7 ho8) StatePost.el (by k_asm) (by k_asm) (by k_asm) (by k_asm) (fun p hp => hp) (by k_asm) (by first | exact rfl | assumption) (by walk_at "DEP") (by walk_at "UNI") ?_)
    intro V2 H2 hc2v ht2 hr2 h7 tk7 F7 N7
    have N8 : News h₀ L h7 (stL w.params V1 (stL w.params V2 l1)) := News.sub N7 fun p hp => (st_swap.mem_iff).mp hp
    have H3 : WF w V1 (stL w.params V2 l1) := H1.swap H2.ap
    clear N7
    k_steps
    unfold Halt
    have hB1 : Bk w (stL w.params V2 l1) kvb (cont V1.accs) := by rw [hc1v]; exact hBb.mono fun p hp => st_rest (mtl1 p hp)
    have hlen1 : V1.accs.length ≤ 3 := by
      have q1 := cont_len hc1v
      have q2 := List.length_filter_le (fun z : Int × Ct => !z.2.emp) cs
      have q3 := ho4.len
      omega
    have hn1 : ∀ x ∈ V1.accs, 0 ≤ x.bal := fun x hx => by
      have q := acc_cont hx
      rw [hc1v] at q
      exact (ho7 _ (List.mem_filter.mp q).1).1
    have he1 : ∀ z ∈ cont V1.accs, z.2.emp = false := fun z hz => by
      rw [hc1v] at hz
      have q := (List.mem_filter.mp hz).2
      simpa using q
    have hbm1 : (Db, oDb) ∈ stL w.params V2 l1 := st_rest hDb1
    have hBl : Bk w l1 kvb (cont V1.accs) := by rw [hc1v]; exact hBb.mono mtl1
    obtain ⟨hkk1, hbb1⟩ := Bk.hbb hB1
    k_dflt (refine Con.useB (is_so_con V1 _ H3 Db oDb kvb hbm1 hDb hnb (Nat.lt_of_le_of_lt (Nat.le_trans hlb ho5) (by decide)) (Nat.lt_of_le_of_lt hlen1 (by decide)) hkk1 hbb1) (by k_asm) (by k_asm) (by k_asm) (by k_asm) (fun p hp => .tail _ hp) (by k_asm) (by first | exact rfl | assumption) (by walk_at "DEP") (by walk_at "UNI") ?_)
    intro h9 tk9 F9 N9
    have q1 : (V1.st, instObj 439 V1.ds) ∈ stL w.params V1 (stL w.params V2 l1) := .head _
    have q2 : (V1.ds, stO w.params V1) ∈ stL w.params V1 (stL w.params V2 l1) := .tail _ (.head _)
    k_steps
    unfold Halt
    k_dflt (refine Con.useM (mark_con V1 _ H3) (by k_asm) (by k_asm) (by k_asm) (by k_asm) (fun p hp => hp) (by k_asm) (by first | exact rfl | assumption) (by walk_at "DEP") (by walk_at "UNI") ?_)
    intro h10 tk10 t10 F10 N10
    rw [hr1, show ((([] : List Rw).length : Nat) : Int) = 0 from rfl]
    k_steps
    unfold Halt
    have hys : ys.length ≤ 8 := by omega
    k_dflt (refine ConS.useK (all_con V1 _ H3 hr1 ht1 hn1 he1 (Nat.le_trans hlen1 (by decide)) l1 (fun p hp => st_rest hp) Db oDb kvb hDb1 hDb hnb hBl D ys gn gs (st_rest hDl1) (hGa1.mono fun p hp => st_rest hp) hys) AllPost.el (by k_asm) (by k_asm) (by k_asm) (by k_asm) (fun p hp => hp) (by k_asm) (by first | exact rfl | assumption) (by walk_at "DEP") (by walk_at "UNI") ?_)
    intro V3 new3 kv3 bk3 bo3 t3 R3 H4 Iv3 hR3 hb3 hbo3 hbn3 hBk3 h11 tk11 F11 N11
    have hR3' : (R3, tupO [.ref bk3, .int ((runN (cont V1.accs) gs).2 : Int) t3]) ∈ stL w.params V3 (new3 ++ stL w.params V2 l1) := st_rest (List.mem_append_left _ hR3)
    have hDl3 : (D, PySem.W.listOf ys.toArray gn) ∈ stL w.params V3 (new3 ++ stL w.params V2 l1) := st_rest (List.mem_append_right _ (st_rest hDl1))
    k_steps
    unfold Halt
    have hys8 : ys.length ≤ 8 := hys
    k_dflt (refine krv_lit (its := ys.toArray) (zs := ys.reverse) (by k_asm) (by k_asm) (News.isList (by k_asm) hDl3) (IsPart.int _ _) (by simp) ?_ (by with_unfolding_all rfl) (by intro _; with_unfolding_all rfl) (by rw [sizeLine_eq]; simp only [List.size_toArray]; omega))
    intro Dr h12 F12 N12 lDr
    k_steps
    unfold Halt
    have e21 : cont V2.accs = cont V1.accs := hc2v.trans hc1v.symm
    have pp := st_pull (P := w.params) (V2 := V2) (V3 := V3) (d := (Dr, PySem.W.listOf ys.reverse.toArray 0)) (n := new3) (l := l1)
    have H5 : WF w V2 ((Dr, PySem.W.listOf ys.reverse.toArray 0) :: stL w.params V3 (new3 ++ l1)) := H2.re (nd_perm pp (nd_cons lDr H4.ap))
    have N13 := News.sub N12 fun p hp => pp.mem_iff.mp hp
    have hlen2 : V2.accs.length ≤ 3 := by rw [cont_len e21]; unfold cont; rw [List.length_map]; exact hlen1
    have hs1 : ∀ p ∈ l1, p ∈ (Dr, PySem.W.listOf ys.reverse.toArray 0) :: stL w.params V3 (new3 ++ l1) := fun p hp => .tail _ (st_rest (List.mem_append_right _ hp))
    k_dflt (refine ConS.useK (all_con V2 _ H5 hr2 ht2 (fun x hx => by
      have q := acc_cont hx
      rw [hc2v] at q
      exact (ho7 _ (List.mem_filter.mp q).1).1) (by rw [e21]; exact he1) (Nat.le_trans hlen2 (by decide)) l1 hs1 Db oDb kvb hDb1 hDb hnb (by rw [e21]; exact hBl) Dr ys.reverse 0 gs.reverse (.head _) (hGa1.reverse.mono hs1) (by rw [List.length_reverse]; exact hys8)) AllPost.el (by k_asm) (by k_asm) (by k_asm) N13 (fun p hp => hp) (by k_asm) (by first | exact rfl | assumption) (by walk_at "DEP") (by walk_at "UNI") ?_)
    intro V4 new4 kv4 bk4 bo4 t4 R4 H6 Iv4 hR4 hb4 hbo4 hbn4 hBk4 h13 tk13 F13 N14
    have hR4' : (R4, tupO [.ref bk4, .int ((runN (cont V2.accs) gs.reverse).2 : Int) t4]) ∈ stL w.params V4 (new4 ++ (Dr, PySem.W.listOf ys.reverse.toArray 0) :: stL w.params V3 (new3 ++ l1)) := st_rest (List.mem_append_left _ hR4)
    have hturn := Inv.both (cont_nd H1) e21 (List.reverse_perm gs).symm Iv3 Iv4
    clear N13 N12
    rw [← Iv4.st, ← Iv3.st] at F13
    have hgl : gs.length ≤ 8 := by rw [← hG.len]; exact hys8
    have hnt4 := Iv4.nt
    have hna4 := Iv4.na
    rw [List.length_reverse] at hnt4 hna4
    rw [ht2] at hnt4
    obtain ⟨os, ro, uo⟩ := Iv3.undo
    rw [ht1] at uo
    have FIN : ∀ {m₁ : Str → Option Value} {h : Heap} {tk : Nat}, Fr h₀ L h m₁ → m₁ (Str.ofString "other") = some (.ref V4.st) → m₁ (Str.ofString "state") = some (.ref V3.st) → m₁ (Str.ofString "mark") = some (.int 0 t10) → m₁ (Str.ofString "turned") = some (.ref bk4) → m₁ (Str.ofString "book") = some (.ref Db) → News h₀ L h (stL w.params V4 (new4 ++ (Dr, PySem.W.listOf ys.reverse.toArray 0) :: stL w.params V3 (new3 ++ l1))) →
        wpAny (model pw w) (callerA.deeper (envOfC (Str.ofString "law") hd.sC_37_0_false L fa ccd)) (execs (hd.sB_37_0_false.drop 15) (envOfC (Str.ofString "law") hd.sC_37_0_false L fa ccd)) Q E { s with heap := h, toks := tk } := fun F' a1 a2 a3 a4 a5 N' =>
      law_rest3 B F' a1 a2 a3 a4 a5 X N' T H6 H4 (by simp at hnt4; omega) (by omega) Iv4.kept ro uo hb4 hbo4 hbn4 hBk4 hDb1 hDb hnb hBl (Nat.lt_of_le_of_lt (Nat.le_trans hlb ho5) (by decide)) fun h' tk' m' F' => ret h' tk' m' F'
    rcases Nat.eq_zero_or_pos (runN (cont V1.accs) gs).2 with hz | hz
    · obtain ⟨hz2, hsm⟩ := hturn hz
      rw [hz] at F13
      rw [hz2] at hR4'
      have sub4 : ∀ p ∈ new4 ++ l1, p ∈ new4 ++ (Dr, PySem.W.listOf ys.reverse.toArray 0) :: stL w.params V3 (new3 ++ l1) := fun p hp => app_drop (fun q hq => st_rest (List.mem_append_right _ hq)) hp
      have sub3 : ∀ p ∈ new3 ++ l1, p ∈ new4 ++ (Dr, PySem.W.listOf ys.reverse.toArray 0) :: stL w.params V3 (new3 ++ l1) := fun p hp => List.mem_append_right _ (.tail _ (st_rest hp))
      k_steps
      unfold Halt
      k_dflt (refine ne_books (by k_asm) (st_rest (sub4 _ hb4)) (st_rest (sub3 _ hb3)) hbo4 hbo3 hbn4 hbn3 (by walk_at "UNC") (fun p hp => st_rest hp) (hBk4.mono sub4) (hBk3.mono sub3) hsm ?_)
      k_steps
      unfold Halt
      exact FIN (by assumption) rfl rfl rfl rfl rfl (by assumption)
    · k_steps
      · exfalso; omega
      unfold Halt
      exact FIN (by assumption) rfl rfl rfl rfl rfl (by assumption)
theorem rows_14 : True := by
  k_with_none
  k_with "ALL" => first | assumption | exact ne_of_allLt (by assumption)
  k_with "LT2" => ((try dsimp only [AllLtK]); intros; (try refine ltk_tail fun _ => ?_))
  k_with "ROOM" => first | exact Nat.le_of_ble_eq_true rfl | exact bq2 (by assumption) (by rfl) | exact bq1 (by assumption) (by rfl) | exact bq3 (by assumption) (by rfl) | exact bq0 (by assumption) (by rfl) | ((simp only [depth_under_make, depth_under_kw, depth_in1, depth_deeper, depth_caller, rl]); omega)
  k_with "UNITS" => first | exact Nat.le_of_ble_eq_true rfl | exact bq2 (by assumption) (by rfl) | exact bq1 (by assumption) (by rfl) | exact bq3 (by assumption) (by rfl) | exact bq0 (by assumption) (by rfl) | ((have hcL9 := cLine_is); (simp only [units_in1, units_deeper, Around.mark_units, units_caller]); omega)
  k_with "compareOp In int ref" => (k_here; k_dflt (refine' kda_in (knd := PySem.intKind _ _) (by k_asm) (by k_mem) (by k_asm) (by k_asm) (intKind_is _ _ _ _) _ (by assumption) ?_))
  k_with "compareOp NotIn int ref" => (k_here; k_dflt (refine' kdg_notin (knd := PySem.intKind _ _) (by k_asm) (by k_mem) (by k_asm) (by k_asm) (intKind_is _ _ _ _) _ (by assumption) ?_); (try dsimp only [Bool.not_true, Bool.not_false]))
  k_with "getItem ref int" => (k_here; k_dflt (refine kdt_getItem (knd := PySem.intKind _ _) (by k_asm) (by k_mem) (by k_asm) (intKind_is _ _ _ _) (by first | assumption | exact valueAt_put _ _ _) ?_))
  k_with "subscriptTail" => (k_here; (with_reducible show wpAny _ _ (subscriptTail _ _ (Value.ref _) (Value.int _ _)) _ _ _); k_dflt (refine kdt_tail (knd := PySem.intKind _ _) (by k_asm) (by k_mem) (by k_asm) ?_))
  k_with "MEM" => ((repeat (first | exact List.mem_cons_self | assumption | refine List.mem_cons_of_mem _ ?_)); done)
  k_with "eval ListComp" => refine halt_ ?_
  k_with "exec For" => refine halt_ ?_
  k_with "exec While" => refine halt_ ?_
  k_with "call ref" => ((with_reducible first
  | show wpAny _ _ (call (Value.ref 81) _) _ _ _ | show wpAny _ _ (call (Value.ref 207) _) _ _ _ | show wpAny _ _ (call (Value.ref 214) _) _ _ _
  | show wpAny _ _ (call (Value.ref 247) _) _ _ _ | show wpAny _ _ (call (Value.ref 254) _) _ _ _ | show wpAny _ _ (call (Value.ref 282) _) _ _ _ | show wpAny _ _ (call (Value.ref 289) _) _ _ _
  | show wpAny _ _ (call (Value.ref 310) _) _ _ _ | show wpAny _ _ (call (Value.ref 324) _) _ _ _ | show wpAny _ _ (call (Value.ref 345) _) _ _ _ | show wpAny _ _ (call (Value.ref 422) _) _ _ _ | show wpAny _ _ (call (Value.ref 429) _) _ _ _ | show wpAny _ _ (call (Value.ref 436) _) _ _ _
  | show wpAny _ _ (call (Value.ref 450) _) _ _ _ | show wpAny _ _ (call (Value.ref 457) _) _ _ _ | show wpAny _ _ (call (Value.ref 462) _) _ _ _ | show wpAny _ _ (call (Value.ref 467) _) _ _ _ | show wpAny _ _ (call (Value.ref 474) _) _ _ _ | show wpAny _ _ (call (Value.ref 479) _) _ _ _ | show wpAny _ _ (call (Value.ref 486) _) _ _ _); refine halt_ ?_)
  k_with "SUB" => ((repeat (first | assumption | refine List.mem_cons_of_mem _ ?_)); done)
  k_with "setItem ref int" => (k_here; k_dflt (refine' kda_set (knd := PySem.intKind _ _) (by k_asm) (by k_asm) (by k_updF) (by k_asm) (intKind_is _ _ _ _) (by assumption) ?_); intro hz9 oz9 Fz9 Nz9 hdz9; (try dsimp only at Nz9); revert hz9 oz9 Fz9 Nz9 hdz9; intro _ _ _ _ _)
  k_with "call builtin:list.append" => (k_here; (with_reducible show wpAny _ _ (call (Value.builtin _) [Value.ref _, _]) _ _ _); k_dflt (refine' append_K (by k_asm) (by k_asm) (by k_upd) ?_ (by first | assumption | (simp only [Array.size_push, List.size_toArray, List.length_map, sizeLine_eq]; omega)); k_whole); intro _ _ _; (try k_sweep))
  k_with "execs cons" => ((with_reducible refine wpAny_execs_cons ?_); (try dsimp only); k_fold; (rename Flow → Shared → Prop => qz9); (rename Value → Shared → Prop => ez9))
  k_with "KSTEPS" => repeat' (first | (k_unfold; (try clear ez9); (try clear qz9); (try clear ek); (try clear qk); (try dsimp only)) | (k_end; kc_close) | walk1 | (dsimp only; walk1) | (leave1; walk_say "STEP leave1"; (try dsimp only)) | fail "no step")
  k_with "NE" => (refine neN ?_; (try dsimp only); first | assumption | (refine Ne.symm ?_; assumption) | (refine Nat.ne_of_lt ?_; first | assumption | (refine Nat.lt_trans ?_ (by assumption); assumption) | (refine Nat.lt_trans ?_ (by assumption); refine Nat.lt_trans ?_ (by assumption); assumption)) | (refine Nat.ne_of_gt ?_; first | assumption | (refine Nat.lt_trans ?_ (by assumption); assumption) | (refine Nat.lt_trans ?_ (by assumption); refine Nat.lt_trans ?_ (by assumption); assumption)))
  k_with "ENTC" => (refine' code_defC ?k1v0 ?k2v0 ?k3v0 ?k4v0 ?k5v0 ?kAv0 ?kFv0 ?kKv0 ?k6v0 ?k7v0 ?k8v0 ?k9v0 ?kBv0 ?kDv0 ?_ ?c2v0 ?c3v0 ?c4v0; (case kAv0 | kFv0 => exact rfl); (case kKv0 => first | exact rfl | assumption); (case k1v0 | k2v0 | k3v0 | k4v0 | k5v0 => k_asm); (case k6v0 | k7v0 => k_is); (case k8v0 => k_room); (case k9v0 => exact BindsTo.of_eq rfl); (case kBv0 => exact rfl); (case kDv0 => decide +kernel); (case c2v0 | c3v0 | c4v0 => exact rfl); k_whole; intro gz9 Lz9 hz9 tkz9 cz9 FGz9 Fz9 Nz9 Yz9 Bz9 Xz9 Tz9 l1z9; (try k_lt l1z9); k_cells Yz9; (try simp only [List.cons_append, List.nil_append] at Nz9); revert gz9 Lz9 hz9 tkz9; intros; (try dsimp only); (try k_fold))
  k_with "ENTC" => (refine' code_defC ?k1v1 ?k2v1 ?k3v1 ?k4v1 ?k5v1 ?kAv1 ?kFv1 ?kKv1 ?k6v1 ?k7v1 ?k8v1 ?k9v1 ?kBv1 ?kDv1 ?_ ?c2v1 ?c3v1 ?c4v1; (case kAv1 | kFv1 => exact rfl); (case kKv1 => first | exact rfl | assumption); (case k1v1 | k2v1 | k3v1 | k4v1 | k5v1 => k_asm); (case k6v1 | k7v1 => k_is); (case k8v1 => k_room); (case k9v1 => exact BindsTo.of_eq rfl); (case kBv1 => exact rfl); (case kDv1 => decide +kernel); (case c2v1 | c3v1 | c4v1 => exact rfl); k_whole; intro gz9 Lz9 hz9 tkz9 cz9 FGz9 Fz9 Nz9 Yz9 Bz9 Xz9 Tz9 l1z9; (try k_lt l1z9); k_cells Yz9; (try simp only [List.cons_append, List.nil_append] at Nz9); revert gz9 Lz9 hz9 tkz9; intros; (try dsimp only); (try k_fold))
  k_with "ENTC" => (refine' code_defC ?k1v2 ?k2v2 ?k3v2 ?k4v2 ?k5v2 ?kAv2 ?kFv2 ?kKv2 ?k6v2 ?k7v2 ?k8v2 ?k9v2 ?kBv2 ?kDv2 ?_ ?c2v2 ?c3v2 ?c4v2; (case kAv2 | kFv2 => exact rfl); (case kKv2 => first | exact rfl | assumption); (case k1v2 | k2v2 | k3v2 | k4v2 | k5v2 => k_asm); (case k6v2 | k7v2 => k_is); (case k8v2 => k_room); (case k9v2 => exact BindsTo.of_eq rfl); (case kBv2 => exact rfl); (case kDv2 => decide +kernel); (case c2v2 | c3v2 | c4v2 => exact rfl); k_whole; intro gz9 Lz9 hz9 tkz9 cz9 FGz9 Fz9 Nz9 Yz9 Bz9 Xz9 Tz9 l1z9; (try k_lt l1z9); k_cells Yz9; (try simp only [List.cons_append, List.nil_append] at Nz9); revert gz9 Lz9 hz9 tkz9; intros; (try dsimp only); (try k_fold))
  k_with "ENT" => (refine' code_def ?k1v0 ?k2v0 ?k3v0 ?k4v0 ?k5v0 ?kAv0 ?kFv0 ?kKv0 ?k6v0 ?k7v0 ?k8v0 ?k9v0 ?kBv0 ?_ ?c2v0 ?c3v0 ?c4v0 ?c5v0; (case kAv0 | kFv0 => exact rfl); (case kKv0 => first | exact rfl | assumption); (case k1v0 | k2v0 | k3v0 | k4v0 | k5v0 => k_asm); (case k6v0 | k7v0 => k_is); (case k8v0 => k_room); (case k9v0 => exact BindsTo.of_eq rfl); (case c5v0 => decide); (case kBv0 => exact locs rfl); (case c2v0 | c3v0 | c4v0 => exact rfl); k_whole; intro _ _ _ _ _ _ _ _ _; (try dsimp only); (try k_fold))
  k_with "ENT" => (refine' code_def ?k1v1 ?k2v1 ?k3v1 ?k4v1 ?k5v1 ?kAv1 ?kFv1 ?kKv1 ?k6v1 ?k7v1 ?k8v1 ?k9v1 ?kBv1 ?_ ?c2v1 ?c3v1 ?c4v1 ?c5v1; (case kAv1 | kFv1 => exact rfl); (case kKv1 => first | exact rfl | assumption); (case k1v1 | k2v1 | k3v1 | k4v1 | k5v1 => k_asm); (case k6v1 | k7v1 => k_is); (case k8v1 => k_room); (case k9v1 => exact BindsTo.of_eq rfl); (case c5v1 => decide); (case kBv1 => exact locs rfl); (case c2v1 | c3v1 | c4v1 => exact rfl); k_whole; intro _ _ _ _ _ _ _ _ _; (try dsimp only); (try k_fold))
  k_with "ENT" => (refine' code_def ?k1v2 ?k2v2 ?k3v2 ?k4v2 ?k5v2 ?kAv2 ?kFv2 ?kKv2 ?k6v2 ?k7v2 ?k8v2 ?k9v2 ?kBv2 ?_ ?c2v2 ?c3v2 ?c4v2 ?c5v2; (case kAv2 | kFv2 => exact rfl); (case kKv2 => first | exact rfl | assumption); (case k1v2 | k2v2 | k3v2 | k4v2 | k5v2 => k_asm); (case k6v2 | k7v2 => k_is); (case k8v2 => k_room); (case k9v2 => exact BindsTo.of_eq rfl); (case c5v2 => decide); (case kBv2 => exact locs rfl); (case c2v2 | c3v2 | c4v2 => exact rfl); k_whole; intro _ _ _ _ _ _ _ _ _; (try dsimp only); (try k_fold))
  k_with "ENT" => (refine' code_def ?k1v3 ?k2v3 ?k3v3 ?k4v3 ?k5v3 ?kAv3 ?kFv3 ?kKv3 ?k6v3 ?k7v3 ?k8v3 ?k9v3 ?kBv3 ?_ ?c2v3 ?c3v3 ?c4v3 ?c5v3; (case kAv3 | kFv3 => exact rfl); (case kKv3 => first | exact rfl | assumption); (case k1v3 | k2v3 | k3v3 | k4v3 | k5v3 => k_asm); (case k6v3 | k7v3 => k_is); (case k8v3 => k_room); (case k9v3 => exact BindsTo.of_eq rfl); (case c5v3 => decide); (case kBv3 => exact locs rfl); (case c2v3 | c3v3 | c4v3 => exact rfl); k_whole; intro _ _ _ _ _ _ _ _ _; (try dsimp only); (try k_fold))
  k_with "ENT" => (refine' code_def ?k1v4 ?k2v4 ?k3v4 ?k4v4 ?k5v4 ?kAv4 ?kFv4 ?kKv4 ?k6v4 ?k7v4 ?k8v4 ?k9v4 ?kBv4 ?_ ?c2v4 ?c3v4 ?c4v4 ?c5v4; (case kAv4 | kFv4 => exact rfl); (case kKv4 => first | exact rfl | assumption); (case k1v4 | k2v4 | k3v4 | k4v4 | k5v4 => k_asm); (case k6v4 | k7v4 => k_is); (case k8v4 => k_room); (case k9v4 => exact BindsTo.of_eq rfl); (case c5v4 => decide); (case kBv4 => exact locs rfl); (case c2v4 | c3v4 | c4v4 => exact rfl); k_whole; intro _ _ _ _ _ _ _ _ _; (try dsimp only); (try k_fold))
  k_with "ENT" => (refine' code_def ?k1v5 ?k2v5 ?k3v5 ?k4v5 ?k5v5 ?kAv5 ?kFv5 ?kKv5 ?k6v5 ?k7v5 ?k8v5 ?k9v5 ?kBv5 ?_ ?c2v5 ?c3v5 ?c4v5 ?c5v5; (case kAv5 | kFv5 => exact rfl); (case kKv5 => first | exact rfl | assumption); (case k1v5 | k2v5 | k3v5 | k4v5 | k5v5 => k_asm); (case k6v5 | k7v5 => k_is); (case k8v5 => k_room); (case k9v5 => exact BindsTo.of_eq rfl); (case c5v5 => decide); (case kBv5 => exact locs rfl); (case c2v5 | c3v5 | c4v5 => exact rfl); k_whole; intro _ _ _ _ _ _ _ _ _; (try dsimp only); (try k_fold))
  k_with "ENT" => (refine' code_def ?k1v6 ?k2v6 ?k3v6 ?k4v6 ?k5v6 ?kAv6 ?kFv6 ?kKv6 ?k6v6 ?k7v6 ?k8v6 ?k9v6 ?kBv6 ?_ ?c2v6 ?c3v6 ?c4v6 ?c5v6; (case kAv6 | kFv6 => exact rfl); (case kKv6 => first | exact rfl | assumption); (case k1v6 | k2v6 | k3v6 | k4v6 | k5v6 => k_asm); (case k6v6 | k7v6 => k_is); (case k8v6 => k_room); (case k9v6 => exact BindsTo.of_eq rfl); (case c5v6 => decide); (case kBv6 => exact locs rfl); (case c2v6 | c3v6 | c4v6 => exact rfl); k_whole; intro _ _ _ _ _ _ _ _ _; (try dsimp only); (try k_fold))
  k_with "ENT" => (refine' code_def ?k1v7 ?k2v7 ?k3v7 ?k4v7 ?k5v7 ?kAv7 ?kFv7 ?kKv7 ?k6v7 ?k7v7 ?k8v7 ?k9v7 ?kBv7 ?_ ?c2v7 ?c3v7 ?c4v7 ?c5v7; (case kAv7 | kFv7 => exact rfl); (case kKv7 => first | exact rfl | assumption); (case k1v7 | k2v7 | k3v7 | k4v7 | k5v7 => k_asm); (case k6v7 | k7v7 => k_is); (case k8v7 => k_room); (case k9v7 => exact BindsTo.of_eq rfl); (case c5v7 => decide); (case kBv7 => exact locs rfl); (case c2v7 | c3v7 | c4v7 => exact rfl); k_whole; intro _ _ _ _ _ _ _ _ _; (try dsimp only); (try k_fold))
  k_with "ENT" => (refine' code_def ?k1v8 ?k2v8 ?k3v8 ?k4v8 ?k5v8 ?kAv8 ?kFv8 ?kKv8 ?k6v8 ?k7v8 ?k8v8 ?k9v8 ?kBv8 ?_ ?c2v8 ?c3v8 ?c4v8 ?c5v8; (case kAv8 | kFv8 => exact rfl); (case kKv8 => first | exact rfl | assumption); (case k1v8 | k2v8 | k3v8 | k4v8 | k5v8 => k_asm); (case k6v8 | k7v8 => k_is); (case k8v8 => k_room); (case k9v8 => exact BindsTo.of_eq rfl); (case c5v8 => decide); (case kBv8 => exact locs rfl); (case c2v8 | c3v8 | c4v8 => exact rfl); k_whole; intro _ _ _ _ _ _ _ _ _; (try dsimp only); (try k_fold))
  k_with "ENT" => (refine' code_def ?k1v9 ?k2v9 ?k3v9 ?k4v9 ?k5v9 ?kAv9 ?kFv9 ?kKv9 ?k6v9 ?k7v9 ?k8v9 ?k9v9 ?kBv9 ?_ ?c2v9 ?c3v9 ?c4v9 ?c5v9; (case kAv9 | kFv9 => exact rfl); (case kKv9 => first | exact rfl | assumption); (case k1v9 | k2v9 | k3v9 | k4v9 | k5v9 => k_asm); (case k6v9 | k7v9 => k_is); (case k8v9 => k_room); (case k9v9 => exact BindsTo.of_eq rfl); (case c5v9 => decide); (case kBv9 => exact locs rfl); (case c2v9 | c3v9 | c4v9 => exact rfl); k_whole; intro _ _ _ _ _ _ _ _ _; (try dsimp only); (try k_fold))
  k_with "ENT" => (refine' code_def ?k1v10 ?k2v10 ?k3v10 ?k4v10 ?k5v10 ?kAv10 ?kFv10 ?kKv10 ?k6v10 ?k7v10 ?k8v10 ?k9v10 ?kBv10 ?_ ?c2v10 ?c3v10 ?c4v10 ?c5v10; (case kAv10 | kFv10 => exact rfl); (case kKv10 => first | exact rfl | assumption); (case k1v10 | k2v10 | k3v10 | k4v10 | k5v10 => k_asm); (case k6v10 | k7v10 => k_is); (case k8v10 => k_room); (case k9v10 => exact BindsTo.of_eq rfl); (case c5v10 => decide); (case kBv10 => exact locs rfl); (case c2v10 | c3v10 | c4v10 => exact rfl); k_whole; intro _ _ _ _ _ _ _ _ _; (try dsimp only); (try k_fold))
  k_with "ENT" => (refine' code_def ?k1v11 ?k2v11 ?k3v11 ?k4v11 ?k5v11 ?kAv11 ?kFv11 ?kKv11 ?k6v11 ?k7v11 ?k8v11 ?k9v11 ?kBv11 ?_ ?c2v11 ?c3v11 ?c4v11 ?c5v11; (case kAv11 | kFv11 => exact rfl); (case kKv11 => first | exact rfl | assumption); (case k1v11 | k2v11 | k3v11 | k4v11 | k5v11 => k_asm); (case k6v11 | k7v11 => k_is); (case k8v11 => k_room); (case k9v11 => exact BindsTo.of_eq rfl); (case c5v11 => decide); (case kBv11 => exact locs rfl); (case c2v11 | c3v11 | c4v11 => exact rfl); k_whole; intro _ _ _ _ _ _ _ _ _; (try dsimp only); (try k_fold))
  k_with "ENT" => (refine' code_def ?k1v12 ?k2v12 ?k3v12 ?k4v12 ?k5v12 ?kAv12 ?kFv12 ?kKv12 ?k6v12 ?k7v12 ?k8v12 ?k9v12 ?kBv12 ?_ ?c2v12 ?c3v12 ?c4v12 ?c5v12; (case kAv12 | kFv12 => exact rfl); (case kKv12 => first | exact rfl | assumption); (case k1v12 | k2v12 | k3v12 | k4v12 | k5v12 => k_asm); (case k6v12 | k7v12 => k_is); (case k8v12 => k_room); (case k9v12 => exact BindsTo.of_eq rfl); (case c5v12 => decide); (case kBv12 => exact locs rfl); (case c2v12 | c3v12 | c4v12 => exact rfl); k_whole; intro _ _ _ _ _ _ _ _ _; (try dsimp only); (try k_fold))
  k_with "ENT" => (refine' code_def ?k1v13 ?k2v13 ?k3v13 ?k4v13 ?k5v13 ?kAv13 ?kFv13 ?kKv13 ?k6v13 ?k7v13 ?k8v13 ?k9v13 ?kBv13 ?_ ?c2v13 ?c3v13 ?c4v13 ?c5v13; (case kAv13 | kFv13 => exact rfl); (case kKv13 => first | exact rfl | assumption); (case k1v13 | k2v13 | k3v13 | k4v13 | k5v13 => k_asm); (case k6v13 | k7v13 => k_is); (case k8v13 => k_room); (case k9v13 => exact BindsTo.of_eq rfl); (case c5v13 => decide); (case kBv13 => exact locs rfl); (case c2v13 | c3v13 | c4v13 => exact rfl); k_whole; intro _ _ _ _ _ _ _ _ _; (try dsimp only); (try k_fold))
  k_with "DEP" => first | exact Nat.le_of_ble_eq_true rfl | exact bq2 (by assumption) (by rfl) | exact bq1 (by assumption) (by rfl) | exact bq3 (by assumption) (by rfl) | exact bq0 (by assumption) (by rfl) | ((try simp only [weight_make, depth_under_make, depth_under_kw, depth_in1, depth_deeper, depth_caller]); (try dsimp only); omega)
  k_with "UNI" => first | exact Nat.le_of_ble_eq_true rfl | exact bq2 (by assumption) (by rfl) | exact bq1 (by assumption) (by rfl) | exact bq3 (by assumption) (by rfl) | exact bq0 (by assumption) (by rfl) | ((try simp only [cunits_make, units_under_make, units_in1, units_deeper, Around.mark_units, units_caller]); (try dsimp only); omega)
  k_with "LTS" => ((try simp only [AllLt, and_true] at *); (repeat (rename _ ∧ _ => hcj; obtain ⟨_, _⟩ := hcj)))
  k_with "call ref" => (k_here; (with_reducible show wpAny _ _ (call (Value.ref 196) _) _ _ _); k_dflt (refine row_use (by k_asm) (by k_asm) (by k_asm) (by k_asm) (by k_asm) (by first | exact rfl | assumption) (by walk_at "DEP") (by walk_at "UNI") ?_); intro _ _ _ _ _ _ _ _ l1z9 _ _; refine ltk_elim l1z9 ?_; clear l1z9; walk_at "LT2"; (try k_sweep))
  k_with "call ref" => (k_here; (with_reducible show wpAny _ _ (call (Value.ref 165) _) _ _ _); k_dflt (refine acc_use (by k_asm) (by k_asm) (by k_asm) (by k_asm) (by k_asm) (by first | exact rfl | assumption) (by walk_at "DEP") (by walk_at "UNI") ?_); intro _ _ _ _ _ _ _ _ _ _ _ l1z9 _ _; refine ltk_elim l1z9 ?_; clear l1z9; walk_at "LT2"; (try k_sweep))
  k_with "delItem ref int" => (k_here; k_dflt (refine' del_int (by k_asm) (by k_asm) (by k_updF) (by k_asm) (by assumption) (by assumption) ?_); intro hz9 oz9 Fz9 Nz9 hdz9; (try dsimp only at Nz9); revert hz9 oz9 Fz9 Nz9 hdz9; intro _ _ _ _ _)
  k_with "call builtin:len" => (k_here; (with_reducible show wpAny _ _ (call (Value.builtin "len") [Value.ref _]) _ _ _); k_dflt (refine len_list (News.isList (by k_asm) (by k_mem)) (by simp only [List.size_toArray, List.length_map]; omega) ?_); (try simp only [List.size_toArray, List.length_map]))
  k_with "call builtin:list.pop" => (k_here; k_dflt (refine' kl_popU (by k_asm) (by k_asm) (by k_upd) (by exact pop_last _ _) (by exact pop_fits (by assumption)) ?_; k_whole); intro _ _ _; (try k_sweep))
  k_with "call builtin:sorted" => ((with_reducible show wpAny _ _ (call (Value.builtin "sorted") [Value.ref _]) _ _ _); refine halt_ ?_)
  k_with "binaryOp Add ref ref" => ((with_reducible show wpAny _ _ (binaryOp _ (Value.ref _) (Value.ref _)) _ _ _); refine halt_ ?_)
  k_with "exec Assign cons ListComp" => refine halt_ ?_
  k_with "getMethod ref" => (k_here; (with_reducible show wpAny _ _ (getMethod (Value.ref _) (Str.ofString "get") _) _ _ _); k_dflt (refine kdg_method (knd := PySem.intKind _ _) (by k_asm) (by k_mem) (by k_asm) ?_))
  k_with "call builtin:dict.get" => (k_here; k_dflt (refine kdg_get1 (knd := PySem.intKind _ _) (by k_asm) (by k_mem) (by k_asm) (by assumption) (intKind_is _ _ _ _) (some _) (by assumption) ?_); (try dsimp only [Option.getD]))
  k_with "compareOp Eq ref ref" => ((with_reducible show wpAny _ _ (compareOp _ (Value.ref _) (Value.ref _)) _ _ _); refine halt_ ?_)
  k_with "UNC" => first | exact Nat.le_of_ble_eq_true rfl | exact bq2 (by assumption) (by rfl) | exact bq1 (by assumption) (by rfl) | exact bq3 (by assumption) (by rfl) | exact bq0 (by assumption) (by rfl) | ((have hcL9 := cLine_is); (try simp only [units_in1, units_deeper, Around.mark_units, units_caller]); (try dsimp only); omega)
  k_with "call type:dict" => ((with_reducible show wpAny _ _ (call (Value.type "dict") [Value.ref _]) _ _ _); refine halt_ ?_)
  k_with "call builtin:dict.get" => (k_here; (with_reducible show wpAny _ _ (call (Value.builtin "dict.get") [Value.ref _, Value.int _ _, Value.ref _]) _ _ _); k_dflt (refine kdg_get2 (knd := PySem.intKind _ _) (by k_asm) (by k_mem) (by k_asm) (by assumption) (intKind_is _ _ _ _) _ (by assumption) ?_); (try dsimp only [Option.getD]))
  k_with "compareOp NotEq ref ref" => ((with_reducible show wpAny _ _ (compareOp _ (Value.ref _) (Value.ref _)) _ _ _); refine halt_ ?_)
  k_with "compareOp NotIn ref ref" => ((with_reducible show wpAny _ _ (compareOp _ (Value.ref _) (Value.ref _)) _ _ _); refine halt_ ?_)
  k_with "setItem ref ref" => ((with_reducible show wpAny _ _ (setItem (Value.ref _) (Value.ref _) _) _ _ _); refine halt_ ?_)
  k_with "call builtin:dict.get" => (k_here; (with_reducible show wpAny _ _ (call (Value.builtin "dict.get") [Value.ref _, Value.int _ _, Value.int _ _]) _ _ _); k_dflt (refine kdg_get2 (knd := PySem.intKind _ _) (by k_asm) (by k_mem) (by k_asm) (by assumption) (intKind_is _ _ _ _) _ (by assumption) ?_); (try dsimp only [Option.getD]))
  k_with "exec For Name Call cons nil" => refine halt_ ?_
  k_with "call ref" => ((with_reducible show wpAny _ _ (call (Value.ref 439) _) _ _ _); refine halt_ ?_)
  k_with "call ref" => ((with_reducible show wpAny _ _ (call (Value.ref 415) _) _ _ _); refine halt_ ?_)
  k_with "execs cons" => ((with_reducible show wpAny _ _ (execs (Stmt.Assign [Expr.Name (Str.ofString "gifts") _] _ _ :: _) _) _ _ _); refine halt_ ?_)
  trivial
-- PART 71: law's body from the draw of most on
theorem rows_ks : True := by
  k_with "ks" => repeat' (first | (k_unfold; (try clear ez9); (try clear qz9); (try clear ek); (try clear qk); (try dsimp only)) | (k_end; wrow_close) | (dsimp only; walk1) | walk1 | (leave1; walk_say "STEP leave1"; try dsimp only) | fail "no step")
  trivial
set_option maxHeartbeats 16000000 in
theorem law_rest {w : World} {mean : ExcName → Option Value} {mg mb : Str → Option Value} {fa : Addr} {ccd : Value} {base h₀ : Heap} {L wl xl x : Addr} {m₀ : Str → Option Value} {s : Shared} {Q : Flow → Shared → Prop} {E : Value → Shared → Prop} {cw cm : Obj} {vs : List Value} {ns : List Int} {t1 t2 : Tok} {n nn : Nat}
    (B : Below callerA base [] h₀) (F : Fr h₀ L s.heap (fun y => if y = Str.ofString "setting" then some (.ref x) else m₀ y)) (X : (Mine.hd.heap_39 w.params).In h₀)
    (N : News h₀ L s.heap [(wl, wellO xl 0 5 t1 t2 n), (xl, PySem.W.listOf vs.toArray nn), (L + 1 + 1, cm), (L + 1, cw)]) (hcw : cw.data = .cell (some (.ref wl))) (hcm : ∃ o, cm.data = .cell o) (T : Tp mean mg mb h₀)
    (hi : IntsAre vs ns) (hlen : ns.length ≤ 40) (l1 : @LT.lt Nat _ xl wl) (l2 : @LT.lt Nat _ (L + 1 + 1) xl) (l3 : @LT.lt Nat _ (L + 1) xl)
    (ret : ∀ h' tk' m', Fr h₀ L h' m' → Q (.ret (.bool true)) { s with heap := h', toks := tk' }) :
    wpAny (model pw w) (callerA.deeper (envOfC (Str.ofString "law") hd.sC_37_0_false L fa ccd)) (execs (hd.sB_37_0_false.drop 1) (envOfC (Str.ofString "law") hd.sC_37_0_false L fa ccd)) Q E s := by
  delta hd.sB_37_0_false hd.sC_37_0_false
  simp only [List.drop]
  obtain ⟨co, hcm⟩ := hcm
  have hne : @Ne Nat wl xl := Nat.ne_of_gt l1
  have q1 : @Ne Nat (L + 1 + 1) wl := Nat.ne_of_lt (Nat.lt_trans l2 l1)
  have q2 : @Ne Nat (L + 1) wl := Nat.ne_of_lt (Nat.lt_trans l3 l1)
  have q3 : @Ne Nat (L + 1 + 1) xl := Nat.ne_of_lt l2
  have q4 : @Ne Nat (L + 1) xl := Nat.ne_of_lt l3
  have nt0 : ∀ (c d : Obj), ∀ p ∈ ([(L + 1 + 1, c), (L + 1, d)] : Led), p.1 ≠ wl := fun c d p hp => by
    rcases List.mem_cons.mp hp with rfl | hp
    · exact q1
    · rw [List.mem_singleton.mp hp]; exact q2
  k_steps
  unfold Halt
  k_dflt (refine Con.useD (draw_con wl xl vs ns 0 5 _ t1 t2 _ n nn [(L + 1 + 1, cm), (L + 1, cw)] hi hlen (by decide) (by decide) (by decide) (by decide) (by decide +kernel) (by decide +kernel) hne (nt0 _ _)) (by k_asm) (by k_asm) (by k_asm) (by k_asm) (fun p hp => hp) (by k_asm) (by first | exact rfl | assumption) (by walk_at "DEP") (by walk_at "UNI") ?_)
  intro mo tmo s1 u1 u2 n1 h1 tk1 a1 a2 b1 c1 F1 N1
  k_extra "ks"
  rename_i o2 hdo2 D1 h2 F2 N2 y1 y2 y3 y4
  have e40 : (2 : Int) ^ Int.toNat 40 = 1099511627776 := by decide +kernel
  have e220 : (2 : Int) ^ Int.toNat 220 = 1684996666696914987166688442938726917102321526408785780068975640576 := by decide +kernel
  have e9 : (10 : Int) ^ Int.toNat 9 = 1000000000 := by decide +kernel
  rw [e40] at a2
  obtain ⟨va, hva, hla, Nb⟩ : ∃ va : List Value, (∀ v ∈ va, ∃ z t, v = Value.int z t ∧ 0 ≤ z ∧ z ≤ 1684996666696914987166688442938726917102321526408785780068975640576) ∧ va.length = 4 ∧ News h₀ L h2 ((D1, tupO va) :: (wl, wellO xl (0 + 1) s1 u1 u2 n1) :: (xl, PySem.W.listOf vs.toArray nn) :: (L + 1 + 1, o2) :: [(L + 1, cw)]) := ⟨[_, _, _, _], by
    intro v hv
    simp only [List.mem_cons, List.not_mem_nil, or_false] at hv
    rcases hv with rfl | rfl | rfl | rfl
    · exact ⟨_, _, rfl, by omega, by omega⟩
    · exact ⟨_, _, rfl, by omega, by omega⟩
    · exact ⟨_, _, rfl, by omega, by omega⟩
    · exact ⟨_, _, rfl, by omega, by omega⟩, rfl, N2⟩
  clear N2
  unfold Halt
  k_dflt (refine Con.useD (draw_con wl xl vs ns (0 + 1) s1 4 u1 u2 _ n1 nn ((D1, tupO va) :: [(L + 1 + 1, o2), (L + 1, cw)]) hi hlen (by decide) (by decide) b1 c1 (by decide) (by decide) hne ?hnt) (by k_asm) (by k_asm) (by k_asm) (by k_asm) (fun p hp => gift_sub hp) (by k_asm) (by first | exact rfl | assumption) (by walk_at "DEP") (by walk_at "UNI") ?_)
  case hnt => exact fun p hp => by rcases List.mem_cons.mp hp with h | hp; rw [h]; exact Nat.ne_of_gt y1; exact nt0 _ _ p hp
  intro r3 tr3 s3 v1 v2 n3 h3 tk3 a3 a4 b3 c3 F3 N3
  k_extra "ks"
  k_dflt (refine item_intP (vs := va) (fun v => ∃ z t, v = Value.int z t ∧ 0 ≤ z ∧ z ≤ 1684996666696914987166688442938726917102321526408785780068975640576) (by k_asm) (by k_mem) a3 (by rw [hla]; exact a4) (by omega) hva ?_)
  rintro v ⟨z4, t4, rfl, a5, a6⟩
  have N4 := News.sub N3 (l' := (wl, wellO xl (0 + 1 + 1) s3 v1 v2 n3) :: (xl, PySem.W.listOf vs.toArray nn) :: [(L + 1 + 1, o2), (L + 1, cw)]) (fun p hp => gift_sub2 hp)
  clear N3
  k_extra "ks"
  have DR : ∀ (sp st many : Int) (u1 u2 tm : Tok) (n : Nat), 0 ≤ sp → sp ≤ 1000 → 0 ≤ st → st < 101 → 0 < many → many ≤ 2 ^ 64 → Con w none 450 [.ref wl, .int many tm] 1 20 ((wl, wellO xl sp st u1 u2 n) :: (xl, PySem.W.listOf vs.toArray nn) :: [(L + 1 + 1, o2), (L + 1, cw)]) (fun r l' => ∃ r₀ t st' t1' t2' n', r = .int r₀ t ∧ 0 ≤ r₀ ∧ r₀ < many ∧ 0 ≤ st' ∧ st' < 101 ∧ l' = (wl, wellO xl (sp + 1) st' t1' t2' n') :: (xl, PySem.W.listOf vs.toArray nn) :: [(L + 1 + 1, o2), (L + 1, cw)]) := fun sp st many u1 u2 tm n e1 e2 e3 e4 e5 e6 => draw_con wl xl vs ns sp st many u1 u2 tm n nn _ hi hlen e1 e2 e3 e4 e5 e6 hne (nt0 _ _)
  (unfold Halt; k_dflt (refine Con.useD (DR (0 + 1 + 1) s3 2 v1 v2 _ n3 (by decide) (by decide) b3 c3 (by decide) (by decide)) (by k_asm) (by k_asm) (by k_asm) (by k_asm) (fun p hp => hp) (by k_asm) (by first | exact rfl | assumption) (by walk_at "DEP") (by walk_at "UNI") ?_))
  intro d5 td5 s5 v51 v52 n5 h5 tk5 a51 a52 b5 c5 F5 N5
  k_extra "ks"
  rename_i h6 F6 N6
  obtain ⟨room, trm, F6b, hr1, hr2⟩ : ∃ (room : Int) (t : Tok), Fr h₀ L h6 (fun y => if y = Str.ofString "room" then some (.int room t) else if y = Str.ofString "setting" then some (.ref x) else m₀ y) ∧ 1 ≤ room ∧ room ≤ 1684996666696914987166688442938726917102321526408785780068975640576 * 1000000000 + 1 := ⟨_, _, F6, by rw [e9]; split <;> omega, by rw [e9]; split <;> omega⟩
  clear F6
  (unfold Halt; k_dflt (refine Con.useD (DR (0 + 1 + 1 + 1) s5 2 v51 v52 _ n5 (by decide) (by decide) b5 c5 (by decide) (by decide)) (by k_asm) (by k_asm) (by k_asm) (by k_asm) (fun p hp => hp) (by k_asm) (by first | exact rfl | assumption) (by walk_at "DEP") (by walk_at "UNI") ?_))
  intro nonce td7 s7 v71 v72 n7 h7 tk7 a71 a72 b7 c7 F7 N7
  k_extra "ks"
  rename_i D2 h8 F8 N8 y5 y6 y7 y8
  obtain ⟨vb, hvb, hlb, Nc⟩ : ∃ vb : List Value, (∀ v ∈ vb, ∃ z t, v = Value.bytes z t) ∧ vb.length = 2 ∧ News h₀ L h8 ((D2, tupO vb) :: (wl, wellO xl (0 + 1 + 1 + 1 + 1) s7 v71 v72 n7) :: (xl, PySem.W.listOf vs.toArray nn) :: (L + 1 + 1, o2) :: [(L + 1, cw)]) := ⟨[_, _], by simp, rfl, N8⟩
  clear N8
  unfold Halt
  k_dflt (refine Con.useD (draw_con wl xl vs ns (0 + 1 + 1 + 1 + 1) s7 2 v71 v72 _ n7 nn ((D2, tupO vb) :: [(L + 1 + 1, o2), (L + 1, cw)]) hi hlen (by decide) (by decide) b7 c7 (by decide) (by decide) hne ?hnt) (by k_asm) (by k_asm) (by k_asm) (by k_asm) (fun p hp => gift_sub hp) (by k_asm) (by first | exact rfl | assumption) (by walk_at "DEP") (by walk_at "UNI") ?_)
  case hnt => exact fun p hp => by rcases List.mem_cons.mp hp with h | hp; rw [h]; exact Nat.ne_of_gt y5; exact nt0 _ _ p hp
  intro r9' tr9 s9 v91 v92 n9 h9 tk9 a91 a92 b9 c9 F9 N9
  k_extra "ks"
  k_dflt (refine item_intP (vs := vb) (fun v => ∃ z t, v = Value.bytes z t) (by k_asm) (by k_mem) a91 (by rw [hlb]; exact a92) (by omega) hvb ?_)
  rintro v ⟨code, tcd, rfl⟩
  have N10 := News.sub N9 (l' := (wl, wellO xl (0 + 1 + 1 + 1 + 1 + 1) s9 v91 v92 n9) :: (xl, PySem.W.listOf vs.toArray nn) :: [(L + 1 + 1, o2), (L + 1, cw)]) (fun p hp => gift_sub2 hp)
  clear N9
  k_extra "ks"
  have e64 : (2 : Int) ^ Int.toNat 64 = 18446744073709551616 := by decide +kernel
  have e256 : (2 : Int) ^ Int.toNat 256 = 115792089237316195423570985008687907853269984665640564039457584007913129639936 := by decide +kernel
  (unfold Halt; k_dflt (refine Con.useD (DR (0 + 1 + 1 + 1 + 1 + 1) s9 _ v91 v92 _ n9 (by decide) (by decide) b9 c9 (by decide +kernel) (by decide +kernel)) (by k_asm) (by k_asm) (by k_asm) (by k_asm) (fun p hp => .tail _ hp) (by k_asm) (by first | exact rfl | assumption) (by walk_at "DEP") (by walk_at "UNI") ?_))
  intro sec td11 s11 v111 v112 n11 h11 tk11 a111 a112 b11 c11 F11 N11
  rw [e64] at a112
  k_extra "ks"
  (unfold Halt; k_dflt (refine Con.useD (DR (0 + 1 + 1 + 1 + 1 + 1 + 1) s11 _ v111 v112 _ n11 (by decide) (by decide) b11 c11 (by decide +kernel) (by decide +kernel)) (by k_asm) (by k_asm) (by k_asm) (by k_asm) (fun p hp => hp) (by k_asm) (by first | exact rfl | assumption) (by walk_at "DEP") (by walk_at "UNI") ?_))
  intro thi td12 s12 v121 v122 n12 h12 tk12 a121 a122 b12 c12 F12 N12
  rw [e64] at a122
  k_extra "ks"
  rename_i on h8' oo4 loO hdO4 _ _ _ _ _ d1 h7' od1 lo1 _ _ hi1 _ _ _ _ _ _ _ D1' h6' _ _ _ _ _ _ _ d2 hh5 od2 lo2 _ _ hi2 _ _ _ _ _ _ _ _ _ D2' hh4 _ _ _ _ _ _ _ _ _ hh3 od3 lo3 hd3 _ _ _ _ _ _ _ _ _ _ _ _ D3' hh2 _ _ _ _ _ _ _ _ _ _ _ hh1 oo hdO hh Fe Ne
  unfold Halt
  rw [e256] at Ne
  have Ne2 := News.sub Ne (fun p hp => drop8 hp)
  clear Ne
  refine law_rest2 (cs := [(1, ⟨0, 115792089237316195423570985008687907853269984665640564039457584007913129639936 - room - sec - thi, #[], false⟩), (2, ⟨nonce, sec, code, false⟩), (3, ⟨0, thi, #[], true⟩)]) B Fe rfl rfl X Ne2 (by k_mem) (by k_mem) hcw hdo2 T hi hlen ?p1 ?p2 b12 c12 ?nd (by k_mem) hdO loO (.cons ⟨D1', _, _, _, d1, od1, 0, rfl, by k_mem, by k_mem, hi1, lo1⟩ (.cons ⟨D2', _, _, _, d2, od2, 0, rfl, by k_mem, by k_mem, hi2, lo2⟩ (.cons ⟨D3', _, _, _, _, od3, _, rfl, by k_mem, by k_mem, hd3, lo3⟩ .nil))) (Nat.le_refl 3) ?pw ?p7 ?p8 ret
  case p1 => decide
  case p2 => decide
  case nd => exact nd11 (by assumption) (by assumption) (by assumption) (by assumption) (by assumption) (by assumption) (by assumption) l1 l2 (Nat.lt_succ_self _)
  case pw => exact (by decide : ([1, 2, 3] : List Int).Pairwise (· ≤ ·))
  case p7 =>
    intro z hz
    simp only [List.mem_cons, List.not_mem_nil, or_false] at hz
    rcases hz with rfl | rfl | rfl
    · constructor <;> (dsimp only; omega)
    · constructor <;> (dsimp only; omega)
    · constructor <;> (dsimp only; omega)
  case p8 =>
    intro j z hj hl
    rcases j with _ | _ | j
    · cases hj; rfl
    · cases hj; rfl
    · exact absurd hl (by simp)
theorem rows_15 : True := by
  k_with_none
  k_with "ALL" => first | assumption | exact ne_of_allLt (by assumption)
  k_with "LT2" => ((try dsimp only [AllLtK]); intros; (try refine ltk_tail fun _ => ?_))
  k_with "ROOM" => first | exact Nat.le_of_ble_eq_true rfl | exact bq2 (by assumption) (by rfl) | exact bq1 (by assumption) (by rfl) | exact bq3 (by assumption) (by rfl) | exact bq0 (by assumption) (by rfl) | ((simp only [depth_under_make, depth_under_kw, depth_in1, depth_deeper, depth_caller, rl]); omega)
  k_with "UNITS" => first | exact Nat.le_of_ble_eq_true rfl | exact bq2 (by assumption) (by rfl) | exact bq1 (by assumption) (by rfl) | exact bq3 (by assumption) (by rfl) | exact bq0 (by assumption) (by rfl) | ((have hcL9 := cLine_is); (simp only [units_in1, units_deeper, Around.mark_units, units_caller]); omega)
  k_with "compareOp In int ref" => (k_here; k_dflt (refine' kda_in (knd := PySem.intKind _ _) (by k_asm) (by k_mem) (by k_asm) (by k_asm) (intKind_is _ _ _ _) _ (by assumption) ?_))
  k_with "compareOp NotIn int ref" => (k_here; k_dflt (refine' kdg_notin (knd := PySem.intKind _ _) (by k_asm) (by k_mem) (by k_asm) (by k_asm) (intKind_is _ _ _ _) _ (by assumption) ?_); (try dsimp only [Bool.not_true, Bool.not_false]))
  k_with "getItem ref int" => (k_here; k_dflt (refine kdt_getItem (knd := PySem.intKind _ _) (by k_asm) (by k_mem) (by k_asm) (intKind_is _ _ _ _) (by first | assumption | exact valueAt_put _ _ _) ?_))
  k_with "subscriptTail" => (k_here; (with_reducible show wpAny _ _ (subscriptTail _ _ (Value.ref _) (Value.int _ _)) _ _ _); k_dflt (refine kdt_tail (knd := PySem.intKind _ _) (by k_asm) (by k_mem) (by k_asm) ?_))
  k_with "MEM" => ((repeat (first | exact List.mem_cons_self | assumption | refine List.mem_cons_of_mem _ ?_)); done)
  k_with "eval ListComp" => refine halt_ ?_
  k_with "exec For" => refine halt_ ?_
  k_with "exec While" => refine halt_ ?_
  k_with "call ref" => ((with_reducible first
  | show wpAny _ _ (call (Value.ref 81) _) _ _ _ | show wpAny _ _ (call (Value.ref 207) _) _ _ _ | show wpAny _ _ (call (Value.ref 214) _) _ _ _
  | show wpAny _ _ (call (Value.ref 247) _) _ _ _ | show wpAny _ _ (call (Value.ref 254) _) _ _ _ | show wpAny _ _ (call (Value.ref 282) _) _ _ _ | show wpAny _ _ (call (Value.ref 289) _) _ _ _
  | show wpAny _ _ (call (Value.ref 310) _) _ _ _ | show wpAny _ _ (call (Value.ref 324) _) _ _ _ | show wpAny _ _ (call (Value.ref 345) _) _ _ _ | show wpAny _ _ (call (Value.ref 422) _) _ _ _ | show wpAny _ _ (call (Value.ref 429) _) _ _ _ | show wpAny _ _ (call (Value.ref 436) _) _ _ _
  | show wpAny _ _ (call (Value.ref 450) _) _ _ _ | show wpAny _ _ (call (Value.ref 457) _) _ _ _ | show wpAny _ _ (call (Value.ref 462) _) _ _ _ | show wpAny _ _ (call (Value.ref 467) _) _ _ _ | show wpAny _ _ (call (Value.ref 474) _) _ _ _ | show wpAny _ _ (call (Value.ref 479) _) _ _ _ | show wpAny _ _ (call (Value.ref 486) _) _ _ _); refine halt_ ?_)
  k_with "SUB" => ((repeat (first | assumption | refine List.mem_cons_of_mem _ ?_)); done)
  k_with "setItem ref int" => (k_here; k_dflt (refine' kda_set (knd := PySem.intKind _ _) (by k_asm) (by k_asm) (by k_updF) (by k_asm) (intKind_is _ _ _ _) (by assumption) ?_); intro hz9 oz9 Fz9 Nz9 hdz9; (try dsimp only at Nz9); revert hz9 oz9 Fz9 Nz9 hdz9; intro _ _ _ _ _)
  k_with "call builtin:list.append" => (k_here; (with_reducible show wpAny _ _ (call (Value.builtin _) [Value.ref _, _]) _ _ _); k_dflt (refine' append_K (by k_asm) (by k_asm) (by k_upd) ?_ (by first | assumption | (simp only [Array.size_push, List.size_toArray, List.length_map, sizeLine_eq]; omega)); k_whole); intro _ _ _; (try k_sweep))
  k_with "execs cons" => ((with_reducible refine wpAny_execs_cons ?_); (try dsimp only); k_fold; (rename Flow → Shared → Prop => qz9); (rename Value → Shared → Prop => ez9))
  k_with "KSTEPS" => repeat' (first | (k_unfold; (try clear ez9); (try clear qz9); (try clear ek); (try clear qk); (try dsimp only)) | (k_end; kc_close) | walk1 | (dsimp only; walk1) | (leave1; walk_say "STEP leave1"; (try dsimp only)) | fail "no step")
  k_with "NE" => (refine neN ?_; (try dsimp only); first | assumption | (refine Ne.symm ?_; assumption) | (refine Nat.ne_of_lt ?_; first | assumption | (refine Nat.lt_trans ?_ (by assumption); assumption) | (refine Nat.lt_trans ?_ (by assumption); refine Nat.lt_trans ?_ (by assumption); assumption)) | (refine Nat.ne_of_gt ?_; first | assumption | (refine Nat.lt_trans ?_ (by assumption); assumption) | (refine Nat.lt_trans ?_ (by assumption); refine Nat.lt_trans ?_ (by assumption); assumption)))
  k_with "ENTC" => (refine' code_defC ?k1v0 ?k2v0 ?k3v0 ?k4v0 ?k5v0 ?kAv0 ?kFv0 ?kKv0 ?k6v0 ?k7v0 ?k8v0 ?k9v0 ?kBv0 ?kDv0 ?_ ?c2v0 ?c3v0 ?c4v0; (case kAv0 | kFv0 => exact rfl); (case kKv0 => first | exact rfl | assumption); (case k1v0 | k2v0 | k3v0 | k4v0 | k5v0 => k_asm); (case k6v0 | k7v0 => k_is); (case k8v0 => k_room); (case k9v0 => exact BindsTo.of_eq rfl); (case kBv0 => exact rfl); (case kDv0 => decide +kernel); (case c2v0 | c3v0 | c4v0 => exact rfl); k_whole; intro gz9 Lz9 hz9 tkz9 cz9 FGz9 Fz9 Nz9 Yz9 Bz9 Xz9 Tz9 l1z9; (try k_lt l1z9); k_cells Yz9; (try simp only [List.cons_append, List.nil_append] at Nz9); revert gz9 Lz9 hz9 tkz9; intros; (try dsimp only); (try k_fold))
  k_with "ENTC" => (refine' code_defC ?k1v1 ?k2v1 ?k3v1 ?k4v1 ?k5v1 ?kAv1 ?kFv1 ?kKv1 ?k6v1 ?k7v1 ?k8v1 ?k9v1 ?kBv1 ?kDv1 ?_ ?c2v1 ?c3v1 ?c4v1; (case kAv1 | kFv1 => exact rfl); (case kKv1 => first | exact rfl | assumption); (case k1v1 | k2v1 | k3v1 | k4v1 | k5v1 => k_asm); (case k6v1 | k7v1 => k_is); (case k8v1 => k_room); (case k9v1 => exact BindsTo.of_eq rfl); (case kBv1 => exact rfl); (case kDv1 => decide +kernel); (case c2v1 | c3v1 | c4v1 => exact rfl); k_whole; intro gz9 Lz9 hz9 tkz9 cz9 FGz9 Fz9 Nz9 Yz9 Bz9 Xz9 Tz9 l1z9; (try k_lt l1z9); k_cells Yz9; (try simp only [List.cons_append, List.nil_append] at Nz9); revert gz9 Lz9 hz9 tkz9; intros; (try dsimp only); (try k_fold))
  k_with "ENTC" => (refine' code_defC ?k1v2 ?k2v2 ?k3v2 ?k4v2 ?k5v2 ?kAv2 ?kFv2 ?kKv2 ?k6v2 ?k7v2 ?k8v2 ?k9v2 ?kBv2 ?kDv2 ?_ ?c2v2 ?c3v2 ?c4v2; (case kAv2 | kFv2 => exact rfl); (case kKv2 => first | exact rfl | assumption); (case k1v2 | k2v2 | k3v2 | k4v2 | k5v2 => k_asm); (case k6v2 | k7v2 => k_is); (case k8v2 => k_room); (case k9v2 => exact BindsTo.of_eq rfl); (case kBv2 => exact rfl); (case kDv2 => decide +kernel); (case c2v2 | c3v2 | c4v2 => exact rfl); k_whole; intro gz9 Lz9 hz9 tkz9 cz9 FGz9 Fz9 Nz9 Yz9 Bz9 Xz9 Tz9 l1z9; (try k_lt l1z9); k_cells Yz9; (try simp only [List.cons_append, List.nil_append] at Nz9); revert gz9 Lz9 hz9 tkz9; intros; (try dsimp only); (try k_fold))
  k_with "ENT" => (refine' code_def ?k1v0 ?k2v0 ?k3v0 ?k4v0 ?k5v0 ?kAv0 ?kFv0 ?kKv0 ?k6v0 ?k7v0 ?k8v0 ?k9v0 ?kBv0 ?_ ?c2v0 ?c3v0 ?c4v0 ?c5v0; (case kAv0 | kFv0 => exact rfl); (case kKv0 => first | exact rfl | assumption); (case k1v0 | k2v0 | k3v0 | k4v0 | k5v0 => k_asm); (case k6v0 | k7v0 => k_is); (case k8v0 => k_room); (case k9v0 => exact BindsTo.of_eq rfl); (case c5v0 => decide); (case kBv0 => exact locs rfl); (case c2v0 | c3v0 | c4v0 => exact rfl); k_whole; intro _ _ _ _ _ _ _ _ _; (try dsimp only); (try k_fold))
  k_with "ENT" => (refine' code_def ?k1v1 ?k2v1 ?k3v1 ?k4v1 ?k5v1 ?kAv1 ?kFv1 ?kKv1 ?k6v1 ?k7v1 ?k8v1 ?k9v1 ?kBv1 ?_ ?c2v1 ?c3v1 ?c4v1 ?c5v1; (case kAv1 | kFv1 => exact rfl); (case kKv1 => first | exact rfl | assumption); (case k1v1 | k2v1 | k3v1 | k4v1 | k5v1 => k_asm); (case k6v1 | k7v1 => k_is); (case k8v1 => k_room); (case k9v1 => exact BindsTo.of_eq rfl); (case c5v1 => decide); (case kBv1 => exact locs rfl); (case c2v1 | c3v1 | c4v1 => exact rfl); k_whole; intro _ _ _ _ _ _ _ _ _; (try dsimp only); (try k_fold))
  k_with "ENT" => (refine' code_def ?k1v2 ?k2v2 ?k3v2 ?k4v2 ?k5v2 ?kAv2 ?kFv2 ?kKv2 ?k6v2 ?k7v2 ?k8v2 ?k9v2 ?kBv2 ?_ ?c2v2 ?c3v2 ?c4v2 ?c5v2; (case kAv2 | kFv2 => exact rfl); (case kKv2 => first | exact rfl | assumption); (case k1v2 | k2v2 | k3v2 | k4v2 | k5v2 => k_asm); (case k6v2 | k7v2 => k_is); (case k8v2 => k_room); (case k9v2 => exact BindsTo.of_eq rfl); (case c5v2 => decide); (case kBv2 => exact locs rfl); (case c2v2 | c3v2 | c4v2 => exact rfl); k_whole; intro _ _ _ _ _ _ _ _ _; (try dsimp only); (try k_fold))
  k_with "ENT" => (refine' code_def ?k1v3 ?k2v3 ?k3v3 ?k4v3 ?k5v3 ?kAv3 ?kFv3 ?kKv3 ?k6v3 ?k7v3 ?k8v3 ?k9v3 ?kBv3 ?_ ?c2v3 ?c3v3 ?c4v3 ?c5v3; (case kAv3 | kFv3 => exact rfl); (case kKv3 => first | exact rfl | assumption); (case k1v3 | k2v3 | k3v3 | k4v3 | k5v3 => k_asm); (case k6v3 | k7v3 => k_is); (case k8v3 => k_room); (case k9v3 => exact BindsTo.of_eq rfl); (case c5v3 => decide); (case kBv3 => exact locs rfl); (case c2v3 | c3v3 | c4v3 => exact rfl); k_whole; intro _ _ _ _ _ _ _ _ _; (try dsimp only); (try k_fold))
  k_with "ENT" => (refine' code_def ?k1v4 ?k2v4 ?k3v4 ?k4v4 ?k5v4 ?kAv4 ?kFv4 ?kKv4 ?k6v4 ?k7v4 ?k8v4 ?k9v4 ?kBv4 ?_ ?c2v4 ?c3v4 ?c4v4 ?c5v4; (case kAv4 | kFv4 => exact rfl); (case kKv4 => first | exact rfl | assumption); (case k1v4 | k2v4 | k3v4 | k4v4 | k5v4 => k_asm); (case k6v4 | k7v4 => k_is); (case k8v4 => k_room); (case k9v4 => exact BindsTo.of_eq rfl); (case c5v4 => decide); (case kBv4 => exact locs rfl); (case c2v4 | c3v4 | c4v4 => exact rfl); k_whole; intro _ _ _ _ _ _ _ _ _; (try dsimp only); (try k_fold))
  k_with "ENT" => (refine' code_def ?k1v5 ?k2v5 ?k3v5 ?k4v5 ?k5v5 ?kAv5 ?kFv5 ?kKv5 ?k6v5 ?k7v5 ?k8v5 ?k9v5 ?kBv5 ?_ ?c2v5 ?c3v5 ?c4v5 ?c5v5; (case kAv5 | kFv5 => exact rfl); (case kKv5 => first | exact rfl | assumption); (case k1v5 | k2v5 | k3v5 | k4v5 | k5v5 => k_asm); (case k6v5 | k7v5 => k_is); (case k8v5 => k_room); (case k9v5 => exact BindsTo.of_eq rfl); (case c5v5 => decide); (case kBv5 => exact locs rfl); (case c2v5 | c3v5 | c4v5 => exact rfl); k_whole; intro _ _ _ _ _ _ _ _ _; (try dsimp only); (try k_fold))
  k_with "ENT" => (refine' code_def ?k1v6 ?k2v6 ?k3v6 ?k4v6 ?k5v6 ?kAv6 ?kFv6 ?kKv6 ?k6v6 ?k7v6 ?k8v6 ?k9v6 ?kBv6 ?_ ?c2v6 ?c3v6 ?c4v6 ?c5v6; (case kAv6 | kFv6 => exact rfl); (case kKv6 => first | exact rfl | assumption); (case k1v6 | k2v6 | k3v6 | k4v6 | k5v6 => k_asm); (case k6v6 | k7v6 => k_is); (case k8v6 => k_room); (case k9v6 => exact BindsTo.of_eq rfl); (case c5v6 => decide); (case kBv6 => exact locs rfl); (case c2v6 | c3v6 | c4v6 => exact rfl); k_whole; intro _ _ _ _ _ _ _ _ _; (try dsimp only); (try k_fold))
  k_with "ENT" => (refine' code_def ?k1v7 ?k2v7 ?k3v7 ?k4v7 ?k5v7 ?kAv7 ?kFv7 ?kKv7 ?k6v7 ?k7v7 ?k8v7 ?k9v7 ?kBv7 ?_ ?c2v7 ?c3v7 ?c4v7 ?c5v7; (case kAv7 | kFv7 => exact rfl); (case kKv7 => first | exact rfl | assumption); (case k1v7 | k2v7 | k3v7 | k4v7 | k5v7 => k_asm); (case k6v7 | k7v7 => k_is); (case k8v7 => k_room); (case k9v7 => exact BindsTo.of_eq rfl); (case c5v7 => decide); (case kBv7 => exact locs rfl); (case c2v7 | c3v7 | c4v7 => exact rfl); k_whole; intro _ _ _ _ _ _ _ _ _; (try dsimp only); (try k_fold))
  k_with "ENT" => (refine' code_def ?k1v8 ?k2v8 ?k3v8 ?k4v8 ?k5v8 ?kAv8 ?kFv8 ?kKv8 ?k6v8 ?k7v8 ?k8v8 ?k9v8 ?kBv8 ?_ ?c2v8 ?c3v8 ?c4v8 ?c5v8; (case kAv8 | kFv8 => exact rfl); (case kKv8 => first | exact rfl | assumption); (case k1v8 | k2v8 | k3v8 | k4v8 | k5v8 => k_asm); (case k6v8 | k7v8 => k_is); (case k8v8 => k_room); (case k9v8 => exact BindsTo.of_eq rfl); (case c5v8 => decide); (case kBv8 => exact locs rfl); (case c2v8 | c3v8 | c4v8 => exact rfl); k_whole; intro _ _ _ _ _ _ _ _ _; (try dsimp only); (try k_fold))
  k_with "ENT" => (refine' code_def ?k1v9 ?k2v9 ?k3v9 ?k4v9 ?k5v9 ?kAv9 ?kFv9 ?kKv9 ?k6v9 ?k7v9 ?k8v9 ?k9v9 ?kBv9 ?_ ?c2v9 ?c3v9 ?c4v9 ?c5v9; (case kAv9 | kFv9 => exact rfl); (case kKv9 => first | exact rfl | assumption); (case k1v9 | k2v9 | k3v9 | k4v9 | k5v9 => k_asm); (case k6v9 | k7v9 => k_is); (case k8v9 => k_room); (case k9v9 => exact BindsTo.of_eq rfl); (case c5v9 => decide); (case kBv9 => exact locs rfl); (case c2v9 | c3v9 | c4v9 => exact rfl); k_whole; intro _ _ _ _ _ _ _ _ _; (try dsimp only); (try k_fold))
  k_with "ENT" => (refine' code_def ?k1v10 ?k2v10 ?k3v10 ?k4v10 ?k5v10 ?kAv10 ?kFv10 ?kKv10 ?k6v10 ?k7v10 ?k8v10 ?k9v10 ?kBv10 ?_ ?c2v10 ?c3v10 ?c4v10 ?c5v10; (case kAv10 | kFv10 => exact rfl); (case kKv10 => first | exact rfl | assumption); (case k1v10 | k2v10 | k3v10 | k4v10 | k5v10 => k_asm); (case k6v10 | k7v10 => k_is); (case k8v10 => k_room); (case k9v10 => exact BindsTo.of_eq rfl); (case c5v10 => decide); (case kBv10 => exact locs rfl); (case c2v10 | c3v10 | c4v10 => exact rfl); k_whole; intro _ _ _ _ _ _ _ _ _; (try dsimp only); (try k_fold))
  k_with "ENT" => (refine' code_def ?k1v11 ?k2v11 ?k3v11 ?k4v11 ?k5v11 ?kAv11 ?kFv11 ?kKv11 ?k6v11 ?k7v11 ?k8v11 ?k9v11 ?kBv11 ?_ ?c2v11 ?c3v11 ?c4v11 ?c5v11; (case kAv11 | kFv11 => exact rfl); (case kKv11 => first | exact rfl | assumption); (case k1v11 | k2v11 | k3v11 | k4v11 | k5v11 => k_asm); (case k6v11 | k7v11 => k_is); (case k8v11 => k_room); (case k9v11 => exact BindsTo.of_eq rfl); (case c5v11 => decide); (case kBv11 => exact locs rfl); (case c2v11 | c3v11 | c4v11 => exact rfl); k_whole; intro _ _ _ _ _ _ _ _ _; (try dsimp only); (try k_fold))
  k_with "ENT" => (refine' code_def ?k1v12 ?k2v12 ?k3v12 ?k4v12 ?k5v12 ?kAv12 ?kFv12 ?kKv12 ?k6v12 ?k7v12 ?k8v12 ?k9v12 ?kBv12 ?_ ?c2v12 ?c3v12 ?c4v12 ?c5v12; (case kAv12 | kFv12 => exact rfl); (case kKv12 => first | exact rfl | assumption); (case k1v12 | k2v12 | k3v12 | k4v12 | k5v12 => k_asm); (case k6v12 | k7v12 => k_is); (case k8v12 => k_room); (case k9v12 => exact BindsTo.of_eq rfl); (case c5v12 => decide); (case kBv12 => exact locs rfl); (case c2v12 | c3v12 | c4v12 => exact rfl); k_whole; intro _ _ _ _ _ _ _ _ _; (try dsimp only); (try k_fold))
  k_with "ENT" => (refine' code_def ?k1v13 ?k2v13 ?k3v13 ?k4v13 ?k5v13 ?kAv13 ?kFv13 ?kKv13 ?k6v13 ?k7v13 ?k8v13 ?k9v13 ?kBv13 ?_ ?c2v13 ?c3v13 ?c4v13 ?c5v13; (case kAv13 | kFv13 => exact rfl); (case kKv13 => first | exact rfl | assumption); (case k1v13 | k2v13 | k3v13 | k4v13 | k5v13 => k_asm); (case k6v13 | k7v13 => k_is); (case k8v13 => k_room); (case k9v13 => exact BindsTo.of_eq rfl); (case c5v13 => decide); (case kBv13 => exact locs rfl); (case c2v13 | c3v13 | c4v13 => exact rfl); k_whole; intro _ _ _ _ _ _ _ _ _; (try dsimp only); (try k_fold))
  k_with "DEP" => first | exact Nat.le_of_ble_eq_true rfl | exact bq2 (by assumption) (by rfl) | exact bq1 (by assumption) (by rfl) | exact bq3 (by assumption) (by rfl) | exact bq0 (by assumption) (by rfl) | ((try simp only [weight_make, depth_under_make, depth_under_kw, depth_in1, depth_deeper, depth_caller]); (try dsimp only); omega)
  k_with "UNI" => first | exact Nat.le_of_ble_eq_true rfl | exact bq2 (by assumption) (by rfl) | exact bq1 (by assumption) (by rfl) | exact bq3 (by assumption) (by rfl) | exact bq0 (by assumption) (by rfl) | ((try simp only [cunits_make, units_under_make, units_in1, units_deeper, Around.mark_units, units_caller]); (try dsimp only); omega)
  k_with "LTS" => ((try simp only [AllLt, and_true] at *); (repeat (rename _ ∧ _ => hcj; obtain ⟨_, _⟩ := hcj)))
  k_with "call ref" => (k_here; (with_reducible show wpAny _ _ (call (Value.ref 196) _) _ _ _); k_dflt (refine row_use (by k_asm) (by k_asm) (by k_asm) (by k_asm) (by k_asm) (by first | exact rfl | assumption) (by walk_at "DEP") (by walk_at "UNI") ?_); intro _ _ _ _ _ _ _ _ l1z9 _ _; refine ltk_elim l1z9 ?_; clear l1z9; walk_at "LT2"; (try k_sweep))
  k_with "call ref" => (k_here; (with_reducible show wpAny _ _ (call (Value.ref 165) _) _ _ _); k_dflt (refine acc_use (by k_asm) (by k_asm) (by k_asm) (by k_asm) (by k_asm) (by first | exact rfl | assumption) (by walk_at "DEP") (by walk_at "UNI") ?_); intro _ _ _ _ _ _ _ _ _ _ _ l1z9 _ _; refine ltk_elim l1z9 ?_; clear l1z9; walk_at "LT2"; (try k_sweep))
  k_with "delItem ref int" => (k_here; k_dflt (refine' del_int (by k_asm) (by k_asm) (by k_updF) (by k_asm) (by assumption) (by assumption) ?_); intro hz9 oz9 Fz9 Nz9 hdz9; (try dsimp only at Nz9); revert hz9 oz9 Fz9 Nz9 hdz9; intro _ _ _ _ _)
  k_with "call builtin:len" => (k_here; (with_reducible show wpAny _ _ (call (Value.builtin "len") [Value.ref _]) _ _ _); k_dflt (refine len_list (News.isList (by k_asm) (by k_mem)) (by simp only [List.size_toArray, List.length_map]; omega) ?_); (try simp only [List.size_toArray, List.length_map]))
  k_with "call builtin:list.pop" => (k_here; k_dflt (refine' kl_popU (by k_asm) (by k_asm) (by k_upd) (by exact pop_last _ _) (by exact pop_fits (by assumption)) ?_; k_whole); intro _ _ _; (try k_sweep))
  k_with "call builtin:sorted" => ((with_reducible show wpAny _ _ (call (Value.builtin "sorted") [Value.ref _]) _ _ _); refine halt_ ?_)
  k_with "binaryOp Add ref ref" => ((with_reducible show wpAny _ _ (binaryOp _ (Value.ref _) (Value.ref _)) _ _ _); refine halt_ ?_)
  k_with "exec Assign cons ListComp" => refine halt_ ?_
  k_with "getMethod ref" => (k_here; (with_reducible show wpAny _ _ (getMethod (Value.ref _) (Str.ofString "get") _) _ _ _); k_dflt (refine kdg_method (knd := PySem.intKind _ _) (by k_asm) (by k_mem) (by k_asm) ?_))
  k_with "call builtin:dict.get" => (k_here; k_dflt (refine kdg_get1 (knd := PySem.intKind _ _) (by k_asm) (by k_mem) (by k_asm) (by assumption) (intKind_is _ _ _ _) (some _) (by assumption) ?_); (try dsimp only [Option.getD]))
  k_with "compareOp Eq ref ref" => ((with_reducible show wpAny _ _ (compareOp _ (Value.ref _) (Value.ref _)) _ _ _); refine halt_ ?_)
  k_with "UNC" => first | exact Nat.le_of_ble_eq_true rfl | exact bq2 (by assumption) (by rfl) | exact bq1 (by assumption) (by rfl) | exact bq3 (by assumption) (by rfl) | exact bq0 (by assumption) (by rfl) | ((have hcL9 := cLine_is); (try simp only [units_in1, units_deeper, Around.mark_units, units_caller]); (try dsimp only); omega)
  k_with "call type:dict" => ((with_reducible show wpAny _ _ (call (Value.type "dict") [Value.ref _]) _ _ _); refine halt_ ?_)
  k_with "call builtin:dict.get" => (k_here; (with_reducible show wpAny _ _ (call (Value.builtin "dict.get") [Value.ref _, Value.int _ _, Value.ref _]) _ _ _); k_dflt (refine kdg_get2 (knd := PySem.intKind _ _) (by k_asm) (by k_mem) (by k_asm) (by assumption) (intKind_is _ _ _ _) _ (by assumption) ?_); (try dsimp only [Option.getD]))
  k_with "compareOp NotEq ref ref" => ((with_reducible show wpAny _ _ (compareOp _ (Value.ref _) (Value.ref _)) _ _ _); refine halt_ ?_)
  k_with "compareOp NotIn ref ref" => ((with_reducible show wpAny _ _ (compareOp _ (Value.ref _) (Value.ref _)) _ _ _); refine halt_ ?_)
  k_with "setItem ref ref" => ((with_reducible show wpAny _ _ (setItem (Value.ref _) (Value.ref _) _) _ _ _); refine halt_ ?_)
  k_with "call builtin:dict.get" => (k_here; (with_reducible show wpAny _ _ (call (Value.builtin "dict.get") [Value.ref _, Value.int _ _, Value.int _ _]) _ _ _); k_dflt (refine kdg_get2 (knd := PySem.intKind _ _) (by k_asm) (by k_mem) (by k_asm) (by assumption) (intKind_is _ _ _ _) _ (by assumption) ?_); (try dsimp only [Option.getD]))
  k_with "exec For Name Call cons nil" => refine halt_ ?_
  k_with "call ref" => ((with_reducible show wpAny _ _ (call (Value.ref 439) _) _ _ _); refine halt_ ?_)
  k_with "call ref" => ((with_reducible show wpAny _ _ (call (Value.ref 415) _) _ _ _); refine halt_ ?_)
  k_with "execs cons" => ((with_reducible show wpAny _ _ (execs (Stmt.Assign [Expr.Name (Str.ofString "most") _] _ _ :: _) _) _ _ _); refine halt_ ?_)
  trivial
-- PART 73: law's walk, from its head to the cut
theorem mine_four {a b c d : Addr × Obj} {l : Led} (ha : a ∈ l) (hb : b ∈ l) (hc : c ∈ l) (hd : d ∈ l) : ∀ p ∈ [a, b, c, d], p ∈ l := fun p hp => by
  simp only [List.mem_cons, List.not_mem_nil, or_false] at hp
  rcases hp with rfl | rfl | rfl | rfl <;> assumption
/-- the law's own text says its names well (the walk's line would make a twin of the whole program for it: 2.5 MB of the compiled file) -/
theorem names_ok : namesOk hd.view_39 (looseW hd.view_39 hd.loose) (namesW hd.view_39 hd.loose) = true := by
  rw [PySem.W.Fast.te17448422675489707002, PySem.W.Fast.te821141287760084731]
  kernel_rfl
theorem imps_none : PyProof.Rows.importsNone hd.view_39 = true := by
  rw [PySem.W.Fast.te2458874890965802552]
  kernel_rfl
local macro_rules | `(tactic| k_qdec) => `(tactic| first | exact names_ok | exact imps_none | decide +kernel)
set_option maxHeartbeats 16000000 in
theorem law_walk : WalkO hd.view_39 hd.loose (XL hd.view_39 hd.lv) hd.hook.says hd.rW hd.dLaw [] (fun f vs => PySem.call f vs) := by
  delta hd.dLaw hd.sB_37_0_false hd.sA_37_0_false hd.sC_37_0_false
  k_go0
  all_goals try k_fold
  all_goals unfold Top.heap at *
  k_steps
  unfold Halt
  refine' law_rest (by assumption) (by assumption) (by assumption) (News.sub (by assumption) (mine_four ?zq_a ?zq_b ?zq_c ?zq_d)) ?zq_hcw ?zq_hcm (by assumption) ?zq_hi ?zq_hlen ?zq_l1 ?zq_l2 ?zq_l3 ?zq_ret
  case zq_hcw => assumption
  case zq_a => k_mem
  case zq_b => k_mem
  case zq_c => k_mem
  case zq_d => k_mem
  case zq_hcm => exact ⟨_, by assumption⟩
  case zq_hi => assumption
  case zq_hlen => exact List.length_take_le _ _
  case zq_l1 => assumption
  case zq_l2 => assumption
  case zq_l3 => assumption
  case zq_ret =>
    intro h' tk' m' F'
    dsimp only
    (k_end; kc_close)
end Mine
theorem PySem.Challenge.cw_sa0313_01_holds : PySem.Challenge.rw_sa0313_01.Holds := by
  exact Mine.hd Mine.law_walk
