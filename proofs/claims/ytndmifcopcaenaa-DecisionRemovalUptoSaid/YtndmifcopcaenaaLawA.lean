/- What this seat's program has to do with the functions of the abstract machine: function by function the same code. -/
import Derived.Test.YtndmifcopcaenaaDataA
import Derived.Test.YtndmifcopcaenaaMachineB
import Derived.Test.YtndmifcopcaenaaRows
set_option linter.unusedVariables false
set_option linter.unusedSimpArgs false
set_option linter.unusedSectionVars false
namespace Go.Proofs.Ytndmifcopcaenaa.tie
open Go Go.AM Go.AM.IR Go.Proofs
set_option maxRecDepth 100000
def num (f : Nat) : Nat := bif Nat.blt f 29 then (bif Nat.blt f 15 then (bif Nat.blt f 8 then (bif Nat.blt f 4 then (bif Nat.blt f 2 then (bif Nat.beq f 1 then 3 else 1000000) else (bif Nat.blt f 3 then (bif Nat.beq f 2 then 4 else 1000000) else (bif Nat.beq f 3 then 5 else 1000000))) else (bif Nat.blt f 6 then (bif Nat.blt f 5 then (bif Nat.beq f 4 then 6 else 1000000) else (bif Nat.beq f 5 then 7 else 1000000)) else (bif Nat.blt f 7 then (bif Nat.beq f 6 then 8 else 1000000) else (bif Nat.beq f 7 then 9 else 1000000)))) else (bif Nat.blt f 11 then (bif Nat.blt f 9 then (bif Nat.beq f 8 then 10 else 1000000) else (bif Nat.blt f 10 then (bif Nat.beq f 9 then 11 else 1000000) else (bif Nat.beq f 10 then 12 else 1000000))) else (bif Nat.blt f 13 then (bif Nat.blt f 12 then (bif Nat.beq f 11 then 13 else 1000000) else (bif Nat.beq f 12 then 14 else 1000000)) else (bif Nat.blt f 14 then (bif Nat.beq f 13 then 15 else 1000000) else (bif Nat.beq f 14 then 16 else 1000000))))) else (bif Nat.blt f 22 then (bif Nat.blt f 18 then (bif Nat.blt f 16 then (bif Nat.beq f 15 then 17 else 1000000) else (bif Nat.blt f 17 then (bif Nat.beq f 16 then 18 else 1000000) else (bif Nat.beq f 17 then 19 else 1000000))) else (bif Nat.blt f 20 then (bif Nat.blt f 19 then (bif Nat.beq f 18 then 20 else 1000000) else (bif Nat.beq f 19 then 21 else 1000000)) else (bif Nat.blt f 21 then (bif Nat.beq f 20 then 22 else 1000000) else (bif Nat.beq f 21 then 23 else 1000000)))) else (bif Nat.blt f 25 then (bif Nat.blt f 23 then (bif Nat.beq f 22 then 24 else 1000000) else (bif Nat.blt f 24 then (bif Nat.beq f 23 then 25 else 1000000) else (bif Nat.beq f 24 then 26 else 1000000))) else (bif Nat.blt f 27 then (bif Nat.blt f 26 then (bif Nat.beq f 25 then 27 else 1000000) else (bif Nat.beq f 26 then 28 else 1000000)) else (bif Nat.blt f 28 then (bif Nat.beq f 27 then 29 else 1000000) else (bif Nat.beq f 28 then 30 else 1000000)))))) else (bif Nat.blt f 43 then (bif Nat.blt f 36 then (bif Nat.blt f 32 then (bif Nat.blt f 30 then (bif Nat.beq f 29 then 31 else 1000000) else (bif Nat.blt f 31 then (bif Nat.beq f 30 then 32 else 1000000) else (bif Nat.beq f 31 then 33 else 1000000))) else (bif Nat.blt f 34 then (bif Nat.blt f 33 then (bif Nat.beq f 32 then 34 else 1000000) else (bif Nat.beq f 33 then 35 else 1000000)) else (bif Nat.blt f 35 then (bif Nat.beq f 34 then 36 else 1000000) else (bif Nat.beq f 35 then 37 else 1000000)))) else (bif Nat.blt f 39 then (bif Nat.blt f 37 then (bif Nat.beq f 36 then 38 else 1000000) else (bif Nat.blt f 38 then (bif Nat.beq f 37 then 39 else 1000000) else (bif Nat.beq f 38 then 40 else 1000000))) else (bif Nat.blt f 41 then (bif Nat.blt f 40 then (bif Nat.beq f 39 then 41 else 1000000) else (bif Nat.beq f 40 then 42 else 1000000)) else (bif Nat.blt f 42 then (bif Nat.beq f 41 then 43 else 1000000) else (bif Nat.beq f 42 then 44 else 1000000))))) else (bif Nat.blt f 50 then (bif Nat.blt f 46 then (bif Nat.blt f 44 then (bif Nat.beq f 43 then 45 else 1000000) else (bif Nat.blt f 45 then (bif Nat.beq f 44 then 46 else 1000000) else (bif Nat.beq f 45 then 47 else 1000000))) else (bif Nat.blt f 48 then (bif Nat.blt f 47 then (bif Nat.beq f 46 then 48 else 1000000) else (bif Nat.beq f 47 then 49 else 1000000)) else (bif Nat.blt f 49 then (bif Nat.beq f 48 then 50 else 1000000) else (bif Nat.beq f 49 then 51 else 1000000)))) else (bif Nat.blt f 54 then (bif Nat.blt f 52 then (bif Nat.blt f 51 then (bif Nat.beq f 50 then 52 else 1000000) else (bif Nat.beq f 51 then 53 else 1000000)) else (bif Nat.blt f 53 then (bif Nat.beq f 52 then 54 else 1000000) else (bif Nat.beq f 53 then 55 else 1000000))) else (bif Nat.blt f 56 then (bif Nat.blt f 55 then (bif Nat.beq f 54 then 56 else 1000000) else (bif Nat.beq f 55 then 57 else 1000000)) else (bif Nat.blt f 57 then (bif Nat.beq f 56 then 58 else 1000000) else (bif Nat.beq f 57 then 59 else 1000000))))))
def fid (f : Nat) : Nat := bif Nat.blt f 31 then (bif Nat.blt f 17 then (bif Nat.blt f 10 then (bif Nat.blt f 6 then (bif Nat.blt f 4 then (bif Nat.beq f 3 then 1 else 1000000) else (bif Nat.blt f 5 then (bif Nat.beq f 4 then 2 else 1000000) else (bif Nat.beq f 5 then 3 else 1000000))) else (bif Nat.blt f 8 then (bif Nat.blt f 7 then (bif Nat.beq f 6 then 4 else 1000000) else (bif Nat.beq f 7 then 5 else 1000000)) else (bif Nat.blt f 9 then (bif Nat.beq f 8 then 6 else 1000000) else (bif Nat.beq f 9 then 7 else 1000000)))) else (bif Nat.blt f 13 then (bif Nat.blt f 11 then (bif Nat.beq f 10 then 8 else 1000000) else (bif Nat.blt f 12 then (bif Nat.beq f 11 then 9 else 1000000) else (bif Nat.beq f 12 then 10 else 1000000))) else (bif Nat.blt f 15 then (bif Nat.blt f 14 then (bif Nat.beq f 13 then 11 else 1000000) else (bif Nat.beq f 14 then 12 else 1000000)) else (bif Nat.blt f 16 then (bif Nat.beq f 15 then 13 else 1000000) else (bif Nat.beq f 16 then 14 else 1000000))))) else (bif Nat.blt f 24 then (bif Nat.blt f 20 then (bif Nat.blt f 18 then (bif Nat.beq f 17 then 15 else 1000000) else (bif Nat.blt f 19 then (bif Nat.beq f 18 then 16 else 1000000) else (bif Nat.beq f 19 then 17 else 1000000))) else (bif Nat.blt f 22 then (bif Nat.blt f 21 then (bif Nat.beq f 20 then 18 else 1000000) else (bif Nat.beq f 21 then 19 else 1000000)) else (bif Nat.blt f 23 then (bif Nat.beq f 22 then 20 else 1000000) else (bif Nat.beq f 23 then 21 else 1000000)))) else (bif Nat.blt f 27 then (bif Nat.blt f 25 then (bif Nat.beq f 24 then 22 else 1000000) else (bif Nat.blt f 26 then (bif Nat.beq f 25 then 23 else 1000000) else (bif Nat.beq f 26 then 24 else 1000000))) else (bif Nat.blt f 29 then (bif Nat.blt f 28 then (bif Nat.beq f 27 then 25 else 1000000) else (bif Nat.beq f 28 then 26 else 1000000)) else (bif Nat.blt f 30 then (bif Nat.beq f 29 then 27 else 1000000) else (bif Nat.beq f 30 then 28 else 1000000)))))) else (bif Nat.blt f 45 then (bif Nat.blt f 38 then (bif Nat.blt f 34 then (bif Nat.blt f 32 then (bif Nat.beq f 31 then 29 else 1000000) else (bif Nat.blt f 33 then (bif Nat.beq f 32 then 30 else 1000000) else (bif Nat.beq f 33 then 31 else 1000000))) else (bif Nat.blt f 36 then (bif Nat.blt f 35 then (bif Nat.beq f 34 then 32 else 1000000) else (bif Nat.beq f 35 then 33 else 1000000)) else (bif Nat.blt f 37 then (bif Nat.beq f 36 then 34 else 1000000) else (bif Nat.beq f 37 then 35 else 1000000)))) else (bif Nat.blt f 41 then (bif Nat.blt f 39 then (bif Nat.beq f 38 then 36 else 1000000) else (bif Nat.blt f 40 then (bif Nat.beq f 39 then 37 else 1000000) else (bif Nat.beq f 40 then 38 else 1000000))) else (bif Nat.blt f 43 then (bif Nat.blt f 42 then (bif Nat.beq f 41 then 39 else 1000000) else (bif Nat.beq f 42 then 40 else 1000000)) else (bif Nat.blt f 44 then (bif Nat.beq f 43 then 41 else 1000000) else (bif Nat.beq f 44 then 42 else 1000000))))) else (bif Nat.blt f 52 then (bif Nat.blt f 48 then (bif Nat.blt f 46 then (bif Nat.beq f 45 then 43 else 1000000) else (bif Nat.blt f 47 then (bif Nat.beq f 46 then 44 else 1000000) else (bif Nat.beq f 47 then 45 else 1000000))) else (bif Nat.blt f 50 then (bif Nat.blt f 49 then (bif Nat.beq f 48 then 46 else 1000000) else (bif Nat.beq f 49 then 47 else 1000000)) else (bif Nat.blt f 51 then (bif Nat.beq f 50 then 48 else 1000000) else (bif Nat.beq f 51 then 49 else 1000000)))) else (bif Nat.blt f 56 then (bif Nat.blt f 54 then (bif Nat.blt f 53 then (bif Nat.beq f 52 then 50 else 1000000) else (bif Nat.beq f 53 then 51 else 1000000)) else (bif Nat.blt f 55 then (bif Nat.beq f 54 then 52 else 1000000) else (bif Nat.beq f 55 then 53 else 1000000))) else (bif Nat.blt f 58 then (bif Nat.blt f 57 then (bif Nat.beq f 56 then 54 else 1000000) else (bif Nat.beq f 57 then 55 else 1000000)) else (bif Nat.blt f 59 then (bif Nat.beq f 58 then 56 else 1000000) else (bif Nat.beq f 59 then 57 else 1000000))))))
def N : Nums := ⟨num, fid, id, id⟩
theorem c1 : ((Try.prog.funcs[3]?).bind (compFun Try.prog N false)) = some f1 := by kernel_rfl
theorem c2 : ((Try.prog.funcs[4]?).bind (compFun Try.prog N false)) = some f2 := by kernel_rfl
theorem c3 : ((Try.prog.funcs[5]?).bind (compFun Try.prog N false)) = some f3 := by kernel_rfl
theorem c4 : ((Try.prog.funcs[6]?).bind (compFun Try.prog N false)) = some f4 := by kernel_rfl
theorem c5 : ((Try.prog.funcs[7]?).bind (compFun Try.prog N false)) = some f5 := by kernel_rfl
theorem c6 : ((Try.prog.funcs[8]?).bind (compFun Try.prog N false)) = some f6 := by kernel_rfl
theorem c7 : ((Try.prog.funcs[9]?).bind (compFun Try.prog N false)) = some f7 := by kernel_rfl
theorem c8 : ((Try.prog.funcs[10]?).bind (compFun Try.prog N false)) = some f8 := by kernel_rfl
theorem c9 : ((Try.prog.funcs[11]?).bind (compFun Try.prog N false)) = some f9 := by kernel_rfl
theorem c10 : ((Try.prog.funcs[12]?).bind (compFun Try.prog N false)) = some f10 := by kernel_rfl
theorem c11 : ((Try.prog.funcs[13]?).bind (compFun Try.prog N false)) = some f11 := by kernel_rfl
theorem c12 : ((Try.prog.funcs[14]?).bind (compFun Try.prog N false)) = some f12 := by kernel_rfl
theorem c13 : ((Try.prog.funcs[15]?).bind (compFun Try.prog N false)) = some f13 := by kernel_rfl
theorem c14 : ((Try.prog.funcs[16]?).bind (compFun Try.prog N false)) = some f14 := by kernel_rfl
theorem c15 : ((Try.prog.funcs[17]?).bind (compFun Try.prog N false)) = some f15 := by kernel_rfl
theorem c16 : ((Try.prog.funcs[18]?).bind (compFun Try.prog N false)) = some f16 := by kernel_rfl
theorem c17 : ((Try.prog.funcs[19]?).bind (compFun Try.prog N false)) = some f17 := by kernel_rfl
theorem c18 : ((Try.prog.funcs[20]?).bind (compFun Try.prog N false)) = some f18 := by kernel_rfl
theorem c19 : ((Try.prog.funcs[21]?).bind (compFun Try.prog N false)) = some f19 := by kernel_rfl
theorem c20 : ((Try.prog.funcs[22]?).bind (compFun Try.prog N false)) = some f20 := by kernel_rfl
theorem c21 : ((Try.prog.funcs[23]?).bind (compFun Try.prog N false)) = some f21 := by kernel_rfl
theorem c22 : ((Try.prog.funcs[24]?).bind (compFun Try.prog N false)) = some f22 := by kernel_rfl
theorem c23 : ((Try.prog.funcs[25]?).bind (compFun Try.prog N false)) = some f23 := by kernel_rfl
theorem c24 : ((Try.prog.funcs[26]?).bind (compFun Try.prog N false)) = some f24 := by kernel_rfl
theorem c25 : ((Try.prog.funcs[27]?).bind (compFun Try.prog N false)) = some f25 := by kernel_rfl
theorem c26 : ((Try.prog.funcs[28]?).bind (compFun Try.prog N false)) = some f26 := by kernel_rfl
theorem c27 : ((Try.prog.funcs[29]?).bind (compFun Try.prog N false)) = some f27 := by kernel_rfl
theorem c28 : ((Try.prog.funcs[30]?).bind (compFun Try.prog N false)) = some f28 := by kernel_rfl
theorem c29 : ((Try.prog.funcs[31]?).bind (compFun Try.prog N false)) = some f29 := by kernel_rfl
theorem c30 : ((Try.prog.funcs[32]?).bind (compFun Try.prog N false)) = some f30 := by kernel_rfl
theorem c31 : ((Try.prog.funcs[33]?).bind (compFun Try.prog N false)) = some f31 := by kernel_rfl
theorem c32 : ((Try.prog.funcs[34]?).bind (compFun Try.prog N false)) = some f32 := by kernel_rfl
theorem c33 : ((Try.prog.funcs[35]?).bind (compFun Try.prog N false)) = some f33 := by kernel_rfl
theorem c34 : ((Try.prog.funcs[36]?).bind (compFun Try.prog N false)) = some f34 := by kernel_rfl
theorem c35 : ((Try.prog.funcs[37]?).bind (compFun Try.prog N false)) = some f35 := by kernel_rfl
theorem c36 : ((Try.prog.funcs[38]?).bind (compFun Try.prog N false)) = some f36 := by kernel_rfl
theorem c37 : ((Try.prog.funcs[39]?).bind (compFun Try.prog N false)) = some f37 := by kernel_rfl
theorem c38 : ((Try.prog.funcs[40]?).bind (compFun Try.prog N false)) = some f38 := by kernel_rfl
theorem c39 : ((Try.prog.funcs[41]?).bind (compFun Try.prog N false)) = some f39 := by kernel_rfl
theorem c40 : ((Try.prog.funcs[42]?).bind (compFun Try.prog N false)) = some f40 := by kernel_rfl
theorem c41 : ((Try.prog.funcs[43]?).bind (compFun Try.prog N false)) = some f41 := by kernel_rfl
theorem c42 : ((Try.prog.funcs[44]?).bind (compFun Try.prog N false)) = some f42 := by kernel_rfl
theorem c43 : ((Try.prog.funcs[45]?).bind (compFun Try.prog N false)) = some f43 := by kernel_rfl
theorem c44 : ((Try.prog.funcs[46]?).bind (compFun Try.prog N false)) = some f44 := by kernel_rfl
theorem c45 : ((Try.prog.funcs[47]?).bind (compFun Try.prog N false)) = some f45 := by kernel_rfl
theorem c46 : ((Try.prog.funcs[48]?).bind (compFun Try.prog N false)) = some f46 := by kernel_rfl
theorem c47 : ((Try.prog.funcs[49]?).bind (compFun Try.prog N false)) = some f47 := by kernel_rfl
theorem c48 : ((Try.prog.funcs[50]?).bind (compFun Try.prog N false)) = some f48 := by kernel_rfl
theorem c49 : ((Try.prog.funcs[51]?).bind (compFun Try.prog N false)) = some f49 := by kernel_rfl
theorem c50 : ((Try.prog.funcs[52]?).bind (compFun Try.prog N false)) = some f50 := by kernel_rfl
theorem c51 : ((Try.prog.funcs[53]?).bind (compFun Try.prog N false)) = some f51 := by kernel_rfl
theorem c52 : ((Try.prog.funcs[54]?).bind (compFun Try.prog N false)) = some f52 := by kernel_rfl
theorem c53 : ((Try.prog.funcs[55]?).bind (compFun Try.prog N false)) = some f53 := by kernel_rfl
theorem c54 : ((Try.prog.funcs[56]?).bind (compFun Try.prog N false)) = some f54 := by kernel_rfl
theorem c55 : ((Try.prog.funcs[57]?).bind (compFun Try.prog N false)) = some f55 := by kernel_rfl
theorem c56 : ((Try.prog.funcs[58]?).bind (compFun Try.prog N false)) = some f56 := by kernel_rfl
theorem c57 : ((Try.prog.funcs[59]?).bind (compFun Try.prog N false)) = some f57 := by kernel_rfl
theorem gok : GOk Try.prog N G := gok_of fun f => okF_ite (fun _ => okF_ite (fun _ => okF_ite (fun _ => okF_ite (fun _ => okF_ite (fun _ => okF_leaf rfl c1) fun _ => okF_ite (fun _ => okF_leaf rfl c2) fun _ => okF_leaf rfl c3) fun _ => okF_ite (fun _ => okF_ite (fun _ => okF_leaf rfl c4) fun _ => okF_leaf rfl c5) fun _ => okF_ite (fun _ => okF_leaf rfl c6) fun _ => okF_leaf rfl c7) fun _ => okF_ite (fun _ => okF_ite (fun _ => okF_leaf rfl c8) fun _ => okF_ite (fun _ => okF_leaf rfl c9) fun _ => okF_leaf rfl c10) fun _ => okF_ite (fun _ => okF_ite (fun _ => okF_leaf rfl c11) fun _ => okF_leaf rfl c12) fun _ => okF_ite (fun _ => okF_leaf rfl c13) fun _ => okF_leaf rfl c14) fun _ => okF_ite (fun _ => okF_ite (fun _ => okF_ite (fun _ => okF_leaf rfl c15) fun _ => okF_ite (fun _ => okF_leaf rfl c16) fun _ => okF_leaf rfl c17) fun _ => okF_ite (fun _ => okF_ite (fun _ => okF_leaf rfl c18) fun _ => okF_leaf rfl c19) fun _ => okF_ite (fun _ => okF_leaf rfl c20) fun _ => okF_leaf rfl c21) fun _ => okF_ite (fun _ => okF_ite (fun _ => okF_leaf rfl c22) fun _ => okF_ite (fun _ => okF_leaf rfl c23) fun _ => okF_leaf rfl c24) fun _ => okF_ite (fun _ => okF_ite (fun _ => okF_leaf rfl c25) fun _ => okF_leaf rfl c26) fun _ => okF_ite (fun _ => okF_leaf rfl c27) fun _ => okF_leaf rfl c28) fun _ => okF_ite (fun _ => okF_ite (fun _ => okF_ite (fun _ => okF_ite (fun _ => okF_leaf rfl c29) fun _ => okF_ite (fun _ => okF_leaf rfl c30) fun _ => okF_leaf rfl c31) fun _ => okF_ite (fun _ => okF_ite (fun _ => okF_leaf rfl c32) fun _ => okF_leaf rfl c33) fun _ => okF_ite (fun _ => okF_leaf rfl c34) fun _ => okF_leaf rfl c35) fun _ => okF_ite (fun _ => okF_ite (fun _ => okF_leaf rfl c36) fun _ => okF_ite (fun _ => okF_leaf rfl c37) fun _ => okF_leaf rfl c38) fun _ => okF_ite (fun _ => okF_ite (fun _ => okF_leaf rfl c39) fun _ => okF_leaf rfl c40) fun _ => okF_ite (fun _ => okF_leaf rfl c41) fun _ => okF_leaf rfl c42) fun _ => okF_ite (fun _ => okF_ite (fun _ => okF_ite (fun _ => okF_leaf rfl c43) fun _ => okF_ite (fun _ => okF_leaf rfl c44) fun _ => okF_leaf rfl c45) fun _ => okF_ite (fun _ => okF_ite (fun _ => okF_leaf rfl c46) fun _ => okF_leaf rfl c47) fun _ => okF_ite (fun _ => okF_leaf rfl c48) fun _ => okF_leaf rfl c49) fun _ => okF_ite (fun _ => okF_ite (fun _ => okF_ite (fun _ => okF_leaf rfl c50) fun _ => okF_leaf rfl c51) fun _ => okF_ite (fun _ => okF_leaf rfl c52) fun _ => okF_leaf rfl c53) fun _ => okF_ite (fun _ => okF_ite (fun _ => okF_leaf rfl c54) fun _ => okF_leaf rfl c55) fun _ => okF_ite (fun _ => okF_leaf rfl c56) fun _ => okF_leaf rfl c57
theorem mixed : Try.prog.follows .mixedOrders = true := by kernel_rfl
theorem laid : laidOutB Try.prog = true := by kernel_rfl
theorem own : ownKnob Try.prog.godebug = none := by kernel_rfl
theorem one_le (l : Lit) (H : Type) : 1 ≤ Rows.uptoBulk (DataW.lit (H := H) l) := by cases l <;> simp [Rows.uptoBulk]
def B : Bulk where
  f := Rows.uptoBulk
  g := Rows.uptoBulkAll
  str _ := by simp [Rows.uptoBulk]
  lit l := one_le l _
  nil := by simp [Rows.uptoBulk]
  slice _ _ := by simp [Rows.uptoBulk]
  agg _ := by simp [Rows.uptoBulk]
  none := by simp [Rows.uptoBulkAll]
  cons _ _ := by simp [Rows.uptoBulkAll]
end Go.Proofs.Ytndmifcopcaenaa.tie
