/- What the place's structs and types are, for the evaluator. -/
import Derived.Test.YtanckmepopmjkabGreatT2
import Derived.Test.YtanckmepopmjkabGreatTXd
import Derived.Test.YtanckmepopmjkabGreatProg
import Derived.KernelRfl
set_option linter.unusedVariables false
set_option linter.unusedSimpArgs false
set_option maxRecDepth 100000
namespace Go.Proofs.YtanckmepopmjkabGreat.QW
open Go.Tx
def ents : Nat → Ent
 | 0 => ⟨S45, z45⟩
 | 1 => ⟨S47, z47⟩
 | 2 => ⟨S30, z30⟩
 | 3 => ⟨S32, z32⟩
 | _ => ⟨Unit, ()⟩
def Se : Env := ⟨fun n => (ents n).T, fun n => (ents n).d⟩
def lvSz : Nat → Nat
 | 0 => 2
 | 1 => 4
 | 2 => 3
 | 3 => 4
 | 4 => 4
 | 5 => 4
 | 6 => 2
 | 7 => 2
 | 8 => 3
 | 9 => 4
 | 10 => 2
 | 11 => 2
 | 12 => 4
 | 13 => 3
 | 14 => 3
 | 15 => 4
 | 16 => 1
 | 17 => 1
 | _ => 0
def lvLv : (n : Nat) → Se.S n → List (Lf Se)
 | 0, x => let x : S45 := x; [ii x.f0, ii x.f1]
 | 1, x => let x : S47 := x; [ii x.f0.f0, ii x.f0.f1, ii x.f1.f0, ii x.f1.f1]
 | 2, x => let x : S30 := x; [ii x.f0, ii x.f1, ii x.f2]
 | 3, x => let x : S32 := x; [ii x.f0.f0, ii x.f0.f1, ii x.f0.f2, .bool x.f1]
 | 4, _ => [.int .i64 0 (some 0) (some 0), .int .i64 0 (some 0) (some 0), .bool false, .int .u8 0 (some 0) (some 0)]
 | 5, _ => [.int .i64 0 (some 0) (some 0), .int .i64 0 (some 0) (some 0), .bool false, .int .u8 0 (some 0) (some 0)]
 | 6, _ => [.str ⟨#[]⟩, .int .u64 0 (some 0) (some 0)]
 | 7, _ => [.str ⟨#[]⟩, .int .u64 0 (some 0) (some 0)]
 | 8, _ => [.int .i64 0 (some 0) (some 0), .int .i64 0 (some 0) (some 0), .int .i64 0 (some 0) (some 0)]
 | 9, _ => [.int .i64 0 (some 0) (some 0), .int .i64 0 (some 0) (some 0), .int .i64 0 (some 0) (some 0), .bool false]
 | 10, _ => [.int .i64 0 (some 0) (some 0), .int .i64 0 (some 0) (some 0)]
 | 11, _ => [.int .i64 0 (some 0) (some 0), .int .i64 0 (some 0) (some 0)]
 | 12, _ => [.int .i64 0 (some 0) (some 0), .int .i64 0 (some 0) (some 0), .int .i64 0 (some 0) (some 0), .int .i64 0 (some 0) (some 0)]
 | 13, _ => [.row .made (.int .u8) [], .int .i64 0 (some 0) (some 0), .int .u64 0 (some 0) (some 0)]
 | 14, _ => [.row .made (.int .u8) [], .int .i64 0 (some 0) (some 0), .int .u64 0 (some 0) (some 0)]
 | 15, _ => [.int .i64 0 (some 0) (some 0), .int .i64 0 (some 0) (some 0), .int .i64 0 (some 0) (some 0), .int .i64 0 (some 0) (some 0)]
 | 16, _ => [.str ⟨#[]⟩]
 | 17, _ => [.str ⟨#[]⟩]
 | _, _ => []
def lvUn : (n : Nat) → List (Lf Se) → Se.S n
 | 0, [l0, l1] => ((⟨intAs l0, intAs l1⟩ : S45) : S45)
 | 1, [l0, l1, l2, l3] => ((⟨(⟨intAs l0, intAs l1⟩ : S45), (⟨intAs l2, intAs l3⟩ : S45)⟩ : S47) : S47)
 | 2, [l0, l1, l2] => ((⟨intAs l0, intAs l1, intAs l2⟩ : S30) : S30)
 | 3, [l0, l1, l2, l3] => ((⟨(⟨intAs l0, intAs l1, intAs l2⟩ : S30), boolAs l3⟩ : S32) : S32)
 | n, _ => Se.d n
def lvFlat : Nat → Bool
 | 0 => true
 | 1 => true
 | 2 => true
 | 3 => true
 | 4 => true
 | 5 => true
 | 6 => true
 | 7 => true
 | 8 => true
 | 9 => true
 | 10 => true
 | 11 => true
 | 12 => true
 | 13 => false
 | 14 => false
 | 15 => true
 | 16 => true
 | 17 => true
 | _ => true
def Vs : Lv Se := ⟨lvSz, lvLv, lvUn, lvFlat⟩
theorem VsOk : LvOk Vs := lvOk fun n x => match n, x with
 | 0, _ => ⟨rfl, fun _ => rfl, rfl⟩
 | 1, _ => ⟨rfl, fun _ => rfl, rfl⟩
 | 2, _ => ⟨rfl, fun _ => rfl, rfl⟩
 | 3, _ => ⟨rfl, fun _ => rfl, rfl⟩
 | 4, _ => ⟨rfl, fun _ => rfl, rfl⟩
 | 5, _ => ⟨rfl, fun _ => rfl, rfl⟩
 | 6, _ => ⟨rfl, fun _ => rfl, rfl⟩
 | 7, _ => ⟨rfl, fun _ => rfl, rfl⟩
 | 8, _ => ⟨rfl, fun _ => rfl, rfl⟩
 | 9, _ => ⟨rfl, fun _ => rfl, rfl⟩
 | 10, _ => ⟨rfl, fun _ => rfl, rfl⟩
 | 11, _ => ⟨rfl, fun _ => rfl, rfl⟩
 | 12, _ => ⟨rfl, fun _ => rfl, rfl⟩
 | 13, _ => ⟨rfl, fun h => (by cases h), rfl⟩
 | 14, _ => ⟨rfl, fun h => (by cases h), rfl⟩
 | 15, _ => ⟨rfl, fun _ => rfl, rfl⟩
 | 16, _ => ⟨rfl, fun _ => rfl, rfl⟩
 | 17, _ => ⟨rfl, fun _ => rfl, rfl⟩
 | _ + 18, _ => ⟨rfl, fun _ => rfl, rfl⟩
def tab : List (Nat × TI Se) := [
  (2, ⟨.basic, 1, false, (.int .i64), [.int .i64 0 (some 0) (some 0)], 8, (.int .i64)⟩),
  (3, ⟨.basic, 1, false, (.int .i64), [.int .i64 0 (some 0) (some 0)], 8, (.int .i64)⟩),
  (4, ⟨.basic, 1, false, .bool, [.bool false], 1, .bool⟩),
  (5, ⟨.basic, 1, false, (.int .u8), [.int .u8 0 (some 0) (some 0)], 1, (.int .u8)⟩),
  (6, ⟨.basic, 1, false, (.int .u8), [.int .u8 0 (some 0) (some 0)], 1, (.int .u8)⟩),
  (7, ⟨.struct [(0, 2), (1, 3), (2, 4), (3, 6)], 4, true, (.nam 4), [.int .i64 0 (some 0) (some 0), .int .i64 0 (some 0) (some 0), .bool false, .int .u8 0 (some 0) (some 0)], 24, .oth⟩),
  (8, ⟨.struct [(0, 2), (1, 3), (2, 4), (3, 6)], 4, true, (.nam 5), [.int .i64 0 (some 0) (some 0), .int .i64 0 (some 0) (some 0), .bool false, .int .u8 0 (some 0) (some 0)], 24, .oth⟩),
  (9, ⟨.basic, 1, false, .str, [.str ⟨#[]⟩], 16, .str⟩),
  (10, ⟨.basic, 1, false, .str, [.str ⟨#[]⟩], 16, .str⟩),
  (11, ⟨.basic, 1, false, .str, [.str ⟨#[]⟩], 16, .str⟩),
  (12, ⟨.basic, 1, false, (.int .u64), [.int .u64 0 (some 0) (some 0)], 8, (.int .u64)⟩),
  (21, ⟨.basic, 1, false, (.int .i32), [.int .i32 0 (some 0) (some 0)], 4, (.int .i32)⟩),
  (22, ⟨.slice 5, 1, false, (.list (.int .u8)), [.row .made (.int .u8) []], 24, .oth⟩),
  (24, ⟨.slice 47, 1, false, (.list (.nam 1)), [.row .made (.nam 1) []], 24, .oth⟩),
  (25, ⟨.slice 32, 1, false, (.list (.nam 3)), [.row .made (.nam 3) []], 24, .oth⟩),
  (26, ⟨.slice 2, 1, false, (.list (.int .i64)), [.row .made (.int .i64) []], 24, .oth⟩),
  (29, ⟨.struct [(0, 2), (1, 2), (2, 2)], 3, true, (.nam 8), [.int .i64 0 (some 0) (some 0), .int .i64 0 (some 0) (some 0), .int .i64 0 (some 0) (some 0)], 24, .oth⟩),
  (30, ⟨.struct [(0, 2), (1, 2), (2, 2)], 3, true, (.nam 2), [.int .i64 0 (some 0) (some 0), .int .i64 0 (some 0) (some 0), .int .i64 0 (some 0) (some 0)], 24, .oth⟩),
  (31, ⟨.struct [(0, 30), (3, 4)], 4, true, (.nam 9), [.int .i64 0 (some 0) (some 0), .int .i64 0 (some 0) (some 0), .int .i64 0 (some 0) (some 0), .bool false], 32, .oth⟩),
  (32, ⟨.struct [(0, 30), (3, 4)], 4, true, (.nam 3), [.int .i64 0 (some 0) (some 0), .int .i64 0 (some 0) (some 0), .int .i64 0 (some 0) (some 0), .bool false], 32, .oth⟩),
  (37, ⟨.struct [(0, 2), (1, 2)], 2, true, (.nam 10), [.int .i64 0 (some 0) (some 0), .int .i64 0 (some 0) (some 0)], 16, .oth⟩),
  (38, ⟨.struct [(0, 2), (1, 2)], 2, true, (.nam 11), [.int .i64 0 (some 0) (some 0), .int .i64 0 (some 0) (some 0)], 16, .oth⟩),
  (45, ⟨.array 2 2, 2, true, (.nam 0), [.int .i64 0 (some 0) (some 0), .int .i64 0 (some 0) (some 0)], 16, .oth⟩),
  (46, ⟨.array 2 45, 4, true, (.nam 12), [.int .i64 0 (some 0) (some 0), .int .i64 0 (some 0) (some 0), .int .i64 0 (some 0) (some 0), .int .i64 0 (some 0) (some 0)], 32, .oth⟩),
  (47, ⟨.array 2 45, 4, true, (.nam 1), [.int .i64 0 (some 0) (some 0), .int .i64 0 (some 0) (some 0), .int .i64 0 (some 0) (some 0), .int .i64 0 (some 0) (some 0)], 32, .oth⟩),
  (92, ⟨.basic, 1, false, (.int .u64), [.int .u64 0 (some 0) (some 0)], 8, (.int .u64)⟩),
  (93, ⟨.struct [(0, 22), (1, 3), (2, 92)], 3, true, (.nam 13), [.row .made (.int .u8) [], .int .i64 0 (some 0) (some 0), .int .u64 0 (some 0) (some 0)], 40, .oth⟩),
  (94, ⟨.struct [(0, 22), (1, 3), (2, 92)], 3, true, (.nam 14), [.row .made (.int .u8) [], .int .i64 0 (some 0) (some 0), .int .u64 0 (some 0) (some 0)], 40, .oth⟩),
  (108, ⟨.basic, 1, false, (.int .u64), [.int .u64 0 (some 0) (some 0)], 8, (.int .u64)⟩),
  (111, ⟨.array 4 2, 4, true, (.nam 15), [.int .i64 0 (some 0) (some 0), .int .i64 0 (some 0) (some 0), .int .i64 0 (some 0) (some 0), .int .i64 0 (some 0) (some 0)], 32, .oth⟩),
  (133, ⟨.basic, 1, false, (.int .u32), [.int .u32 0 (some 0) (some 0)], 4, (.int .u32)⟩),
  (134, ⟨.basic, 1, false, (.int .u8), [.int .u8 0 (some 0) (some 0)], 1, (.int .u8)⟩),
  (135, ⟨.basic, 1, false, (.int .u8), [.int .u8 0 (some 0) (some 0)], 1, (.int .u8)⟩),
  (138, ⟨.basic, 1, false, (.int .i32), [.int .i32 0 (some 0) (some 0)], 4, (.int .i32)⟩),
  (139, ⟨.basic, 1, false, (.int .i32), [.int .i32 0 (some 0) (some 0)], 4, (.int .i32)⟩),
  (142, ⟨.struct [(0, 9)], 1, true, (.nam 16), [.str ⟨#[]⟩], 16, .oth⟩),
  (143, ⟨.struct [(0, 9)], 1, true, (.nam 17), [.str ⟨#[]⟩], 16, .oth⟩)
]
theorem tabOk : TabOk Tryz.prog Vs (findN tab) := tabC_sound (by kernel_rfl)
theorem mixed : Tryz.prog.follows .mixedOrders = true := by kernel_rfl
theorem fc_ {f : FuncId} {ps : List (PA Se)} {res : List (RV Se)} {cells : List (List (Lf Se))} (fn : Func) (h : Go.Tx.Fn Vs (findN tab) (CSem Tryz.prog Vs) fn ps res cells) (hf : Tryz.prog.funcs[f]? = some fn := by kernel_rfl) (hb : fn.body.isSome = true := by rfl) (hp : okPs ps = true := by rfl) : CCal Tryz.prog Vs f ps res cells := fn_calls VsOk tabOk (fun _ _ _ _ h => h) mixed hf hb hp h
theorem fs_ {f : FuncId} {ps : List (PA Se)} {res : List (RV Se)} {cells : List (List (Lf Se))} (fn : Func) (h : Go.Tx.Fn Vs (findN tab) (CSem Tryz.prog Vs) fn ps res cells) (hf : Tryz.prog.funcs[f]? = some fn := by kernel_rfl) (hb : fn.body.isSome = true := by rfl) (hn : (fn.name == "runtime.NumGoroutine") = false := by rfl) (hp : okPs ps = true := by rfl) : CSem Tryz.prog Vs f ps res cells := fn_sound VsOk tabOk (fun _ _ _ _ h => h) mixed hf hb hn hp h
end Go.Proofs.YtanckmepopmjkabGreat.QW
