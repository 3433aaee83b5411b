/- Structures and their rows. -/
import Derived.Test.YthfhiepgdeghpaaKFnPicksT5
set_option linter.unusedVariables false
set_option linter.unusedSimpArgs false
set_option maxHeartbeats 8000000
set_option maxRecDepth 100000
namespace Go.TV
structure T_spec_l01Cur where
  b : List Int
  i : Int
  h : Int
  deriving Inhabited
structure T_impl_Body where
  Line : ByteArray
  Ins : Int
  Ord : Int
  Dels : List Int
  deriving Inhabited
structure T_impl_Weave where
  Parents : List (List Int)
  Bodies : List T_impl_Body
  deriving Inhabited
theorem R_u8 : (∀ (l : List Int) (i : Nat) (a0 : Int), (List.map (rK .u8) l).set i [.sc (.int .u8 a0)] = List.map (rK .u8) (l.set i a0)) ∧
  (∀ (l : List Int) (a0 : Int), List.map (rK .u8) l ++ [[.sc (.int .u8 a0)]] = List.map (rK .u8) (l ++ [a0])) ∧
  (∀ (l : List Int) (b0 b1 : Int), List.map (rK .u8) l ++ [[.sc (.int .u8 b0)], [.sc (.int .u8 b1)]] = List.map (rK .u8) (l ++ [b0, b1])) ∧
  (∀ (l : List Int) (b0 b1 b2 : Int), List.map (rK .u8) l ++ [[.sc (.int .u8 b0)], [.sc (.int .u8 b1)], [.sc (.int .u8 b2)]] = List.map (rK .u8) (l ++ [b0, b1, b2])) ∧
  (∀ (l : List Int) (b0 b1 b2 b3 : Int), List.map (rK .u8) l ++ [[.sc (.int .u8 b0)], [.sc (.int .u8 b1)], [.sc (.int .u8 b2)], [.sc (.int .u8 b3)]] = List.map (rK .u8) (l ++ [b0, b1, b2, b3])) ∧
  (∀ n : Nat, List.replicate n [.sc (.int .u8 0)] = List.map (rK .u8) (List.replicate n 0)) ∧
  (∀ l : List Int, borRows (List.map (rK .u8) l) = List.map (rK .u8) l) ∧
  (∀ l : List Int, aliveRows (List.map (rK .u8) l) = true) ∧
  (∀ l : List Int, noBorRows (List.map (rK .u8) l) = true) :=
  ⟨fun l i a0 => set_rows (rK .u8) l i a0,
  fun l a0 => app_rows (rK .u8) l [a0],
  fun l b0 b1 => app_rows (rK .u8) l [b0, b1],
  fun l b0 b1 b2 => app_rows (rK .u8) l [b0, b1, b2],
  fun l b0 b1 b2 b3 => app_rows (rK .u8) l [b0, b1, b2, b3],
  fun n => rep_rows (rK .u8) 0 n,
  bor_rows (fun _ => rfl),
  alRows (fun _ => rfl),
  nb_rows (fun _ => rfl)⟩
theorem R_i64 : (∀ (l : List Int) (i : Nat) (a0 : Int), (List.map (rK .i64) l).set i [.sc (.int .i64 a0)] = List.map (rK .i64) (l.set i a0)) ∧
  (∀ (l : List Int) (a0 : Int), List.map (rK .i64) l ++ [[.sc (.int .i64 a0)]] = List.map (rK .i64) (l ++ [a0])) ∧
  (∀ (l : List Int) (b0 b1 : Int), List.map (rK .i64) l ++ [[.sc (.int .i64 b0)], [.sc (.int .i64 b1)]] = List.map (rK .i64) (l ++ [b0, b1])) ∧
  (∀ (l : List Int) (b0 b1 b2 : Int), List.map (rK .i64) l ++ [[.sc (.int .i64 b0)], [.sc (.int .i64 b1)], [.sc (.int .i64 b2)]] = List.map (rK .i64) (l ++ [b0, b1, b2])) ∧
  (∀ (l : List Int) (b0 b1 b2 b3 : Int), List.map (rK .i64) l ++ [[.sc (.int .i64 b0)], [.sc (.int .i64 b1)], [.sc (.int .i64 b2)], [.sc (.int .i64 b3)]] = List.map (rK .i64) (l ++ [b0, b1, b2, b3])) ∧
  (∀ n : Nat, List.replicate n [.sc (.int .i64 0)] = List.map (rK .i64) (List.replicate n 0)) ∧
  (∀ l : List Int, borRows (List.map (rK .i64) l) = List.map (rK .i64) l) ∧
  (∀ l : List Int, aliveRows (List.map (rK .i64) l) = true) ∧
  (∀ l : List Int, noBorRows (List.map (rK .i64) l) = true) :=
  ⟨fun l i a0 => set_rows (rK .i64) l i a0,
  fun l a0 => app_rows (rK .i64) l [a0],
  fun l b0 b1 => app_rows (rK .i64) l [b0, b1],
  fun l b0 b1 b2 => app_rows (rK .i64) l [b0, b1, b2],
  fun l b0 b1 b2 b3 => app_rows (rK .i64) l [b0, b1, b2, b3],
  fun n => rep_rows (rK .i64) 0 n,
  bor_rows (fun _ => rfl),
  alRows (fun _ => rfl),
  nb_rows (fun _ => rfl)⟩
theorem R_b : (∀ (l : List Bool) (i : Nat) (a0 : Bool), (List.map rB l).set i [.sc (.bool a0)] = List.map rB (l.set i a0)) ∧
  (∀ (l : List Bool) (a0 : Bool), List.map rB l ++ [[.sc (.bool a0)]] = List.map rB (l ++ [a0])) ∧
  (∀ (l : List Bool) (b0 b1 : Bool), List.map rB l ++ [[.sc (.bool b0)], [.sc (.bool b1)]] = List.map rB (l ++ [b0, b1])) ∧
  (∀ (l : List Bool) (b0 b1 b2 : Bool), List.map rB l ++ [[.sc (.bool b0)], [.sc (.bool b1)], [.sc (.bool b2)]] = List.map rB (l ++ [b0, b1, b2])) ∧
  (∀ (l : List Bool) (b0 b1 b2 b3 : Bool), List.map rB l ++ [[.sc (.bool b0)], [.sc (.bool b1)], [.sc (.bool b2)], [.sc (.bool b3)]] = List.map rB (l ++ [b0, b1, b2, b3])) ∧
  (∀ n : Nat, List.replicate n [.sc (.bool false)] = List.map rB (List.replicate n false)) ∧
  (∀ l : List Bool, borRows (List.map rB l) = List.map rB l) ∧
  (∀ l : List Bool, aliveRows (List.map rB l) = true) ∧
  (∀ l : List Bool, noBorRows (List.map rB l) = true) :=
  ⟨fun l i a0 => set_rows rB l i a0,
  fun l a0 => app_rows rB l [a0],
  fun l b0 b1 => app_rows rB l [b0, b1],
  fun l b0 b1 b2 => app_rows rB l [b0, b1, b2],
  fun l b0 b1 b2 b3 => app_rows rB l [b0, b1, b2, b3],
  fun n => rep_rows rB false n,
  bor_rows (fun _ => rfl),
  alRows (fun _ => rfl),
  nb_rows (fun _ => rfl)⟩
theorem R_Li64 : (∀ (l : List (List Int)) (i : Nat) (a0 : List Int), (List.map (rL true 1 (rK .i64)) l).set i [.list true 1 (List.map (rK .i64) a0)] = List.map (rL true 1 (rK .i64)) (l.set i a0)) ∧
  (∀ (l : List (List Int)) (a0 : List Int), List.map (rL true 1 (rK .i64)) l ++ [[.list true 1 (List.map (rK .i64) a0)]] = List.map (rL true 1 (rK .i64)) (l ++ [a0])) ∧
  (∀ (l : List (List Int)) (i : Nat) (a0 : List Int), (List.map (rL false 1 (rK .i64)) l).set i [.list false 1 (List.map (rK .i64) a0)] = List.map (rL false 1 (rK .i64)) (l.set i a0)) ∧
  (∀ (l : List (List Int)) (a0 : List Int), List.map (rL false 1 (rK .i64)) l ++ [[.list false 1 (List.map (rK .i64) a0)]] = List.map (rL false 1 (rK .i64)) (l ++ [a0])) ∧
  (∀ (l : List (List Int)) (i : Nat), (List.map (rL true 1 (rK .i64)) l).set i [.list true 1 []] = List.map (rL true 1 (rK .i64)) (l.set i [])) ∧
  (∀ (l : List (List Int)), List.map (rL true 1 (rK .i64)) l ++ [[.list true 1 []]] = List.map (rL true 1 (rK .i64)) (l ++ [[]])) ∧
  (∀ l : List (List Int), borRows (List.map (rL true 1 (rK .i64)) l) = List.map (rL false 1 (rK .i64)) l) ∧
  (∀ l : List (List Int), aliveRows (List.map (rL true 1 (rK .i64)) l) = true) ∧
  (∀ l : List (List Int), borRows (List.map (rL false 1 (rK .i64)) l) = List.map (rL false 1 (rK .i64)) l) ∧
  (∀ l : List (List Int), aliveRows (List.map (rL false 1 (rK .i64)) l) = true) ∧
  (∀ l : List (List Int), noBorRows (List.map (rL true 1 (rK .i64)) l) = true) :=
  ⟨fun l i a0 => set_rows (rL true 1 (rK .i64)) l i a0,
  fun l a0 => app_rows (rL true 1 (rK .i64)) l [a0],
  fun l i a0 => set_rows (rL false 1 (rK .i64)) l i a0,
  fun l a0 => app_rows (rL false 1 (rK .i64)) l [a0],
  fun l i => set_rows (rL true 1 (rK .i64)) l i [],
  fun l => app_rows (rL true 1 (rK .i64)) l [[]],
  bor_rows (bor_rL (fun _ => rfl)),
  alRows (fun _ => rfl),
  bor_rows (bor_rL (fun _ => rfl)),
  alRows (fun _ => rfl),
  nb_rows (nb_rL (fun _ => rfl))⟩
def r_T_impl_Body (o : Bool) (x : T_impl_Body) : List V := [.sc (.string x.Line), .sc (.int .i64 x.Ins), .sc (.int .i64 x.Ord), .list o 1 (List.map (rK .i64) x.Dels)]
theorem R_T_impl_Body : (∀ (l : List T_impl_Body) (i : Nat) (a0 : ByteArray) (a1 : Int) (a2 : Int) (a3 : List Int), (List.map (r_T_impl_Body true) l).set i [.sc (.string a0), .sc (.int .i64 a1), .sc (.int .i64 a2), .list true 1 (List.map (rK .i64) a3)] = List.map (r_T_impl_Body true) (l.set i (T_impl_Body.mk a0 a1 a2 a3))) ∧
  (∀ (l : List T_impl_Body) (a0 : ByteArray) (a1 : Int) (a2 : Int) (a3 : List Int), List.map (r_T_impl_Body true) l ++ [[.sc (.string a0), .sc (.int .i64 a1), .sc (.int .i64 a2), .list true 1 (List.map (rK .i64) a3)]] = List.map (r_T_impl_Body true) (l ++ [(T_impl_Body.mk a0 a1 a2 a3)])) ∧
  (∀ (l : List T_impl_Body) (i : Nat) (a0 : ByteArray) (a1 : Int) (a2 : Int) (a3 : List Int), (List.map (r_T_impl_Body false) l).set i [.sc (.string a0), .sc (.int .i64 a1), .sc (.int .i64 a2), .list false 1 (List.map (rK .i64) a3)] = List.map (r_T_impl_Body false) (l.set i (T_impl_Body.mk a0 a1 a2 a3))) ∧
  (∀ (l : List T_impl_Body) (a0 : ByteArray) (a1 : Int) (a2 : Int) (a3 : List Int), List.map (r_T_impl_Body false) l ++ [[.sc (.string a0), .sc (.int .i64 a1), .sc (.int .i64 a2), .list false 1 (List.map (rK .i64) a3)]] = List.map (r_T_impl_Body false) (l ++ [(T_impl_Body.mk a0 a1 a2 a3)])) ∧
  (∀ (l : List T_impl_Body) (i : Nat) (a0 : ByteArray) (a1 : Int) (a2 : Int), (List.map (r_T_impl_Body true) l).set i [.sc (.string a0), .sc (.int .i64 a1), .sc (.int .i64 a2), .list true 1 []] = List.map (r_T_impl_Body true) (l.set i (T_impl_Body.mk a0 a1 a2 []))) ∧
  (∀ (l : List T_impl_Body) (a0 : ByteArray) (a1 : Int) (a2 : Int), List.map (r_T_impl_Body true) l ++ [[.sc (.string a0), .sc (.int .i64 a1), .sc (.int .i64 a2), .list true 1 []]] = List.map (r_T_impl_Body true) (l ++ [(T_impl_Body.mk a0 a1 a2 [])])) ∧
  (∀ l : List T_impl_Body, borRows (List.map (r_T_impl_Body true) l) = List.map (r_T_impl_Body false) l) ∧
  (∀ l : List T_impl_Body, aliveRows (List.map (r_T_impl_Body true) l) = true) ∧
  (∀ l : List T_impl_Body, borRows (List.map (r_T_impl_Body false) l) = List.map (r_T_impl_Body false) l) ∧
  (∀ l : List T_impl_Body, aliveRows (List.map (r_T_impl_Body false) l) = true) ∧
  (∀ l : List T_impl_Body, noBorRows (List.map (r_T_impl_Body true) l) = true) ∧
  (∀ x : T_impl_Body, r_T_impl_Body true x = [.sc (.string x.Line), .sc (.int .i64 x.Ins), .sc (.int .i64 x.Ord), .list true 1 (List.map (rK .i64) x.Dels)]) ∧
  (∀ x : T_impl_Body, r_T_impl_Body false x = [.sc (.string x.Line), .sc (.int .i64 x.Ins), .sc (.int .i64 x.Ord), .list false 1 (List.map (rK .i64) x.Dels)]) :=
  ⟨fun l i a0 a1 a2 a3 => set_rows (r_T_impl_Body true) l i (T_impl_Body.mk a0 a1 a2 a3),
  fun l a0 a1 a2 a3 => app_rows (r_T_impl_Body true) l [(T_impl_Body.mk a0 a1 a2 a3)],
  fun l i a0 a1 a2 a3 => set_rows (r_T_impl_Body false) l i (T_impl_Body.mk a0 a1 a2 a3),
  fun l a0 a1 a2 a3 => app_rows (r_T_impl_Body false) l [(T_impl_Body.mk a0 a1 a2 a3)],
  fun l i a0 a1 a2 => set_rows (r_T_impl_Body true) l i (T_impl_Body.mk a0 a1 a2 []),
  fun l a0 a1 a2 => app_rows (r_T_impl_Body true) l [(T_impl_Body.mk a0 a1 a2 [])],
  bor_rows (fun x => by simp only [r_T_impl_Body, borRow, V.bor, (show ∀ l : List Int, borRows (List.map (rK .i64) l) = List.map (rK .i64) l from bor_rows (fun _ => rfl))]),
  alRows (fun _ => rfl),
  bor_rows (fun x => by simp only [r_T_impl_Body, borRow, V.bor, (show ∀ l : List Int, borRows (List.map (rK .i64) l) = List.map (rK .i64) l from bor_rows (fun _ => rfl))]),
  alRows (fun _ => rfl),
  nb_rows (fun x => by simp only [r_T_impl_Body, noBorRow, V.noBor, Bool.and_true, Bool.true_and, (show ∀ l : List Int, noBorRows (List.map (rK .i64) l) = true from nb_rows (fun _ => rfl))]),
  fun _ => rfl,
  fun _ => rfl⟩
theorem R_s : (∀ (l : List ByteArray) (i : Nat) (a0 : ByteArray), (List.map rS l).set i [.sc (.string a0)] = List.map rS (l.set i a0)) ∧
  (∀ (l : List ByteArray) (a0 : ByteArray), List.map rS l ++ [[.sc (.string a0)]] = List.map rS (l ++ [a0])) ∧
  (∀ (l : List ByteArray) (b0 b1 : ByteArray), List.map rS l ++ [[.sc (.string b0)], [.sc (.string b1)]] = List.map rS (l ++ [b0, b1])) ∧
  (∀ (l : List ByteArray) (b0 b1 b2 : ByteArray), List.map rS l ++ [[.sc (.string b0)], [.sc (.string b1)], [.sc (.string b2)]] = List.map rS (l ++ [b0, b1, b2])) ∧
  (∀ (l : List ByteArray) (b0 b1 b2 b3 : ByteArray), List.map rS l ++ [[.sc (.string b0)], [.sc (.string b1)], [.sc (.string b2)], [.sc (.string b3)]] = List.map rS (l ++ [b0, b1, b2, b3])) ∧
  (∀ n : Nat, List.replicate n [.sc (.string (ByteArray.mk #[]))] = List.map rS (List.replicate n (ByteArray.mk #[]))) ∧
  (∀ l : List ByteArray, borRows (List.map rS l) = List.map rS l) ∧
  (∀ l : List ByteArray, aliveRows (List.map rS l) = true) ∧
  (∀ l : List ByteArray, noBorRows (List.map rS l) = true) :=
  ⟨fun l i a0 => set_rows rS l i a0,
  fun l a0 => app_rows rS l [a0],
  fun l b0 b1 => app_rows rS l [b0, b1],
  fun l b0 b1 b2 => app_rows rS l [b0, b1, b2],
  fun l b0 b1 b2 b3 => app_rows rS l [b0, b1, b2, b3],
  fun n => rep_rows rS (ByteArray.mk #[]) n,
  bor_rows (fun _ => rfl),
  alRows (fun _ => rfl),
  nb_rows (fun _ => rfl)⟩
theorem R_Ls : (∀ (l : List (List ByteArray)) (i : Nat) (a0 : List ByteArray), (List.map (rL true 1 rS) l).set i [.list true 1 (List.map rS a0)] = List.map (rL true 1 rS) (l.set i a0)) ∧
  (∀ (l : List (List ByteArray)) (a0 : List ByteArray), List.map (rL true 1 rS) l ++ [[.list true 1 (List.map rS a0)]] = List.map (rL true 1 rS) (l ++ [a0])) ∧
  (∀ (l : List (List ByteArray)) (i : Nat) (a0 : List ByteArray), (List.map (rL false 1 rS) l).set i [.list false 1 (List.map rS a0)] = List.map (rL false 1 rS) (l.set i a0)) ∧
  (∀ (l : List (List ByteArray)) (a0 : List ByteArray), List.map (rL false 1 rS) l ++ [[.list false 1 (List.map rS a0)]] = List.map (rL false 1 rS) (l ++ [a0])) ∧
  (∀ (l : List (List ByteArray)) (i : Nat), (List.map (rL true 1 rS) l).set i [.list true 1 []] = List.map (rL true 1 rS) (l.set i [])) ∧
  (∀ (l : List (List ByteArray)), List.map (rL true 1 rS) l ++ [[.list true 1 []]] = List.map (rL true 1 rS) (l ++ [[]])) ∧
  (∀ l : List (List ByteArray), borRows (List.map (rL true 1 rS) l) = List.map (rL false 1 rS) l) ∧
  (∀ l : List (List ByteArray), aliveRows (List.map (rL true 1 rS) l) = true) ∧
  (∀ l : List (List ByteArray), borRows (List.map (rL false 1 rS) l) = List.map (rL false 1 rS) l) ∧
  (∀ l : List (List ByteArray), aliveRows (List.map (rL false 1 rS) l) = true) ∧
  (∀ l : List (List ByteArray), noBorRows (List.map (rL true 1 rS) l) = true) :=
  ⟨fun l i a0 => set_rows (rL true 1 rS) l i a0,
  fun l a0 => app_rows (rL true 1 rS) l [a0],
  fun l i a0 => set_rows (rL false 1 rS) l i a0,
  fun l a0 => app_rows (rL false 1 rS) l [a0],
  fun l i => set_rows (rL true 1 rS) l i [],
  fun l => app_rows (rL true 1 rS) l [[]],
  bor_rows (bor_rL (fun _ => rfl)),
  alRows (fun _ => rfl),
  bor_rows (bor_rL (fun _ => rfl)),
  alRows (fun _ => rfl),
  nb_rows (nb_rL (fun _ => rfl))⟩
theorem R_Lb : (∀ (l : List (List Bool)) (i : Nat) (a0 : List Bool), (List.map (rL true 1 rB) l).set i [.list true 1 (List.map rB a0)] = List.map (rL true 1 rB) (l.set i a0)) ∧
  (∀ (l : List (List Bool)) (a0 : List Bool), List.map (rL true 1 rB) l ++ [[.list true 1 (List.map rB a0)]] = List.map (rL true 1 rB) (l ++ [a0])) ∧
  (∀ (l : List (List Bool)) (i : Nat) (a0 : List Bool), (List.map (rL false 1 rB) l).set i [.list false 1 (List.map rB a0)] = List.map (rL false 1 rB) (l.set i a0)) ∧
  (∀ (l : List (List Bool)) (a0 : List Bool), List.map (rL false 1 rB) l ++ [[.list false 1 (List.map rB a0)]] = List.map (rL false 1 rB) (l ++ [a0])) ∧
  (∀ (l : List (List Bool)) (i : Nat), (List.map (rL true 1 rB) l).set i [.list true 1 []] = List.map (rL true 1 rB) (l.set i [])) ∧
  (∀ (l : List (List Bool)), List.map (rL true 1 rB) l ++ [[.list true 1 []]] = List.map (rL true 1 rB) (l ++ [[]])) ∧
  (∀ l : List (List Bool), borRows (List.map (rL true 1 rB) l) = List.map (rL false 1 rB) l) ∧
  (∀ l : List (List Bool), aliveRows (List.map (rL true 1 rB) l) = true) ∧
  (∀ l : List (List Bool), borRows (List.map (rL false 1 rB) l) = List.map (rL false 1 rB) l) ∧
  (∀ l : List (List Bool), aliveRows (List.map (rL false 1 rB) l) = true) ∧
  (∀ l : List (List Bool), noBorRows (List.map (rL true 1 rB) l) = true) :=
  ⟨fun l i a0 => set_rows (rL true 1 rB) l i a0,
  fun l a0 => app_rows (rL true 1 rB) l [a0],
  fun l i a0 => set_rows (rL false 1 rB) l i a0,
  fun l a0 => app_rows (rL false 1 rB) l [a0],
  fun l i => set_rows (rL true 1 rB) l i [],
  fun l => app_rows (rL true 1 rB) l [[]],
  bor_rows (bor_rL (fun _ => rfl)),
  alRows (fun _ => rfl),
  bor_rows (bor_rL (fun _ => rfl)),
  alRows (fun _ => rfl),
  nb_rows (nb_rL (fun _ => rfl))⟩
theorem R_u64 : (∀ (l : List Int) (i : Nat) (a0 : Int), (List.map (rK .u64) l).set i [.sc (.int .u64 a0)] = List.map (rK .u64) (l.set i a0)) ∧
  (∀ (l : List Int) (a0 : Int), List.map (rK .u64) l ++ [[.sc (.int .u64 a0)]] = List.map (rK .u64) (l ++ [a0])) ∧
  (∀ (l : List Int) (b0 b1 : Int), List.map (rK .u64) l ++ [[.sc (.int .u64 b0)], [.sc (.int .u64 b1)]] = List.map (rK .u64) (l ++ [b0, b1])) ∧
  (∀ (l : List Int) (b0 b1 b2 : Int), List.map (rK .u64) l ++ [[.sc (.int .u64 b0)], [.sc (.int .u64 b1)], [.sc (.int .u64 b2)]] = List.map (rK .u64) (l ++ [b0, b1, b2])) ∧
  (∀ (l : List Int) (b0 b1 b2 b3 : Int), List.map (rK .u64) l ++ [[.sc (.int .u64 b0)], [.sc (.int .u64 b1)], [.sc (.int .u64 b2)], [.sc (.int .u64 b3)]] = List.map (rK .u64) (l ++ [b0, b1, b2, b3])) ∧
  (∀ n : Nat, List.replicate n [.sc (.int .u64 0)] = List.map (rK .u64) (List.replicate n 0)) ∧
  (∀ l : List Int, borRows (List.map (rK .u64) l) = List.map (rK .u64) l) ∧
  (∀ l : List Int, aliveRows (List.map (rK .u64) l) = true) ∧
  (∀ l : List Int, noBorRows (List.map (rK .u64) l) = true) :=
  ⟨fun l i a0 => set_rows (rK .u64) l i a0,
  fun l a0 => app_rows (rK .u64) l [a0],
  fun l b0 b1 => app_rows (rK .u64) l [b0, b1],
  fun l b0 b1 b2 => app_rows (rK .u64) l [b0, b1, b2],
  fun l b0 b1 b2 b3 => app_rows (rK .u64) l [b0, b1, b2, b3],
  fun n => rep_rows (rK .u64) 0 n,
  bor_rows (fun _ => rfl),
  alRows (fun _ => rfl),
  nb_rows (fun _ => rfl)⟩
end Go.TV
namespace Go.TV.F
noncomputable def laws_big (code : List Int) : Option Bool :=
  some (decide ((code.length : Int) > 1048576))
noncomputable def spec_l01New_j1 (code : List Int) (h : Int) : Option (T_spec_l01Cur) :=
  some (T_spec_l01Cur.mk code 0 h)
noncomputable def spec_l01New_l1 (code : List Int) (h_1 : Int) (i : Int) : Option ((Int × Int) ⊕ (Int)) :=
  (if (decide (i < (code.length : Int))) then some (decide (i < 4000)) else some false).bind fun b => (if b then (geti code i).bind fun x => some (.inl ((bits .and .i64 (wk .i64 ((wk .i64 ((wk .i64 (h_1 * 131)) + (wk .i64 x))) + 7)) 1073741823), (wk .i64 (i + 1))))
  else some (.inr h_1))
noncomputable def spec_l01New (code : List Int) : Option T_spec_l01Cur :=
  (loopM (fun (s' : Int × Int) => spec_l01New_l1 code s'.1 s'.2) ((wk .i64 (73073 + (code.length : Int))), 0)).bind fun p => spec_l01New_j1 code p
noncomputable def spec_l06Size (code : List Int) : Option Int :=
  (if (decide ((wk .i64 (3 + (wk .i64 ((code.length : Int).tdiv 25)))) > 12)) then some 12
  else some (wk .i64 (3 + (wk .i64 ((code.length : Int).tdiv 25)))))
noncomputable def spec_l01Byte (c : T_spec_l01Cur) : Option (Int × T_spec_l01Cur) :=
  (if (decide (c.i < (c.b.length : Int))) then (geti c.b c.i).bind fun x => some ((bits .and .i64 (wk .i64 ((bits .and .i64 (bits .xor .i64 (shrI .i64 (wk .i64 ((wk .i64 (c.h * 6364136223846793005)) + 1442695040888963407)) 33) (shrI .i64 (wk .i64 ((wk .i64 (c.h * 6364136223846793005)) + 1442695040888963407)) 45)) 255) + (wk .i64 x))) 255), (T_spec_l01Cur.mk c.b (wk .i64 (c.i + 1)) (wk .i64 ((wk .i64 (c.h * 6364136223846793005)) + 1442695040888963407))))
  else some ((bits .and .i64 (bits .xor .i64 (shrI .i64 (wk .i64 ((wk .i64 (c.h * 6364136223846793005)) + 1442695040888963407)) 33) (shrI .i64 (wk .i64 ((wk .i64 (c.h * 6364136223846793005)) + 1442695040888963407)) 45)) 255), (T_spec_l01Cur.mk c.b c.i (wk .i64 ((wk .i64 (c.h * 6364136223846793005)) + 1442695040888963407)))))
noncomputable def spec_l01Below (c : T_spec_l01Cur) (n : Int) : Option (Int × T_spec_l01Cur) :=
  (if (decide (n ≤ 0)) then some (0, (T_spec_l01Cur.mk c.b c.i c.h))
  else (if (decide (n ≤ 256)) then (spec_l01Byte (T_spec_l01Cur.mk c.b c.i c.h)).bind fun x14 => (chk (¬ n = 0)).bind fun u => some (((x14.1 : Int).tmod n), (T_spec_l01Cur.mk x14.2.b x14.2.i x14.2.h))
  else (spec_l01Byte (T_spec_l01Cur.mk c.b c.i c.h)).bind fun x18 => (spec_l01Byte (T_spec_l01Cur.mk x18.2.b x18.2.i x18.2.h)).bind fun x20 => (spec_l01Byte (T_spec_l01Cur.mk x20.2.b x20.2.i x20.2.h)).bind fun x22 => (spec_l01Byte (T_spec_l01Cur.mk x22.2.b x22.2.i x22.2.h)).bind fun x24 => (chk (¬ n = 0)).bind fun u_1 => some (((wk .i64 ((wk .i64 ((wk .i64 ((wk .i64 (x18.1 * 16777216)) + (wk .i64 (x20.1 * 65536)))) + (wk .i64 (x22.1 * 256)))) + x24.1)).tmod n), (T_spec_l01Cur.mk x24.2.b x24.2.i x24.2.h))))
noncomputable def spec_l01Once (c : T_spec_l01Cur) (n : Int) : Option (Bool × T_spec_l01Cur) :=
  (spec_l01Below (T_spec_l01Cur.mk c.b c.i c.h) n).bind fun x7 => some ((x7.1 == 0), (T_spec_l01Cur.mk x7.2.b x7.2.i x7.2.h))
noncomputable def spec_l05Parents_j1 (c_1 : List Int) (c_2 : Int) (c_3 : Int) (out_ : List Int) : Option ((List Int) × T_spec_l01Cur) :=
  some (out_, (T_spec_l01Cur.mk c_1 c_2 c_3))
noncomputable def spec_l05Parents_l1 (n : Int) (v : Int) (c_4 : List Int) (c_5 : Int) (c_6 : Int) (out__1 : List Int) : Option ((Int × (List Int) × Int × Int × (List Int)) ⊕ ((List Int) × Int × Int × (List Int))) :=
  (if (decide (v < n)) then (if (decide ((out__1.length : Int) < 4)) then (if (v == (wk .i64 (n - 1))) then (spec_l01Once (T_spec_l01Cur.mk c_4 c_5 c_6) 4).bind fun x23 => some ((!x23.1), x23.2.b, x23.2.i, x23.2.h) else some (false, c_4, c_5, c_6)).bind fun b_1 => (if b_1.1 then some (true, b_1.2.1, b_1.2.2.1, b_1.2.2.2) else (spec_l01Once (T_spec_l01Cur.mk b_1.2.1 b_1.2.2.1 b_1.2.2.2) (wk .i64 (n + 2))).bind fun x30 => some (x30.1, x30.2.b, x30.2.i, x30.2.h)).bind fun b_2 => some (b_2.1, b_2.2.1, b_2.2.2.1, b_2.2.2.2) else some (false, c_4, c_5, c_6)).bind fun b => (if b.1 then (appn out__1 [v]).bind fun l => some (.inl ((wk .i64 (v + 1)), b.2.1, b.2.2.1, b.2.2.2, l))
  else some (.inl ((wk .i64 (v + 1)), b.2.1, b.2.2.1, b.2.2.2, out__1)))
  else some (.inr (c_4, c_5, c_6, out__1)))
noncomputable def spec_l05Parents (c : T_spec_l01Cur) (n : Int) : Option ((List Int) × T_spec_l01Cur) :=
  (loopM (fun (s' : Int × (List Int) × Int × Int × (List Int)) => spec_l05Parents_l1 n s'.1 s'.2.1 s'.2.2.1 s'.2.2.2.1 s'.2.2.2.2) (0, c.b, c.i, c.h, [])).bind fun p => spec_l05Parents_j1 p.1 p.2.1 p.2.2.1 p.2.2.2
noncomputable def spec_l01In (x : Int) (least : Int) (most : Int) : Option Bool :=
  (if (decide (x ≥ least)) then some (decide (x ≤ most)) else some false).bind fun b => some b
noncomputable def spec_l05Set_j2 (in__1 : List Bool) : Option ((List Bool)) :=
  some in__1
noncomputable def spec_l05Set_j3 (v : Int) (in__3 : List Bool) : Option ((Int × (List Bool)) ⊕ ((List Bool))) :=
  some (.inl ((wk .i64 (v - 1)), in__3))
noncomputable def spec_l05Set_l2 (parents : List (List Int)) (v : Int) (k : Int) (in__4 : List Bool) : Option ((Int × (List Bool)) ⊕ ((List Bool))) :=
  (geti parents v).bind fun x => (if (decide (k < (x.length : Int))) then (geti in__4 v).bind fun x_1 => some x_1 else some false).bind fun b => (if b then (geti parents v).bind fun x_2 => (geti x_2 k).bind fun x_3 => (geti in__4 x_3).bind fun x_4 => some (.inl ((wk .i64 (k + 1)), (in__4.set x_3.toNat true)))
  else some (.inr in__4))
noncomputable def spec_l05Set_l1 (parents : List (List Int)) (v : Int) (in__2 : List Bool) : Option ((Int × (List Bool)) ⊕ ((List Bool))) :=
  (if (decide (v ≥ 0)) then (loopM (fun (s' : Int × (List Bool)) => spec_l05Set_l2 parents v s'.1 s'.2) (0, in__2)).bind fun p_1 => spec_l05Set_j3 v p_1
  else some (.inr in__2))
noncomputable def spec_l05Set_j1 (parents : List (List Int)) (in_ : List Bool) : Option ((List Bool)) :=
  (loopM (fun (s' : Int × (List Bool)) => spec_l05Set_l1 parents s'.1 s'.2) ((wk .i64 ((parents.length : Int) - 1)), in_)).bind fun p => spec_l05Set_j2 p
noncomputable def spec_l05Set_l3 (parents : List (List Int)) (list_ : List Int) (i : Int) (in__5 : List Bool) : Option ((Int × (List Bool)) ⊕ ((List Bool))) :=
  (if (decide (i < (list_.length : Int))) then (geti list_ i).bind fun x_5 => (spec_l01In x_5 0 (wk .i64 ((parents.length : Int) - 1))).bind fun x25 => (if x25 then (geti in__5 x_5).bind fun x_6 => some (.inl ((wk .i64 (i + 1)), (in__5.set x_5.toNat true)))
  else some (.inl ((wk .i64 (i + 1)), in__5)))
  else some (.inr in__5))
noncomputable def spec_l05Set (parents : List (List Int)) (list_ : List Int) : Option (List Bool) :=
  ((mkl (parents.length : Int) (parents.length : Int) false : Option (List Bool))).bind fun x11 => (loopM (fun (s' : Int × (List Bool)) => spec_l05Set_l3 parents list_ s'.1 s'.2) (0, x11)).bind fun p_2 => spec_l05Set_j1 parents p_2
noncomputable def spec_l06Live_j1 : Option (Bool) :=
  some true
noncomputable def spec_l06Live_l1 (b : T_impl_Body) (in_ : List Bool) (i : Int) : Option ((Int) ⊕ ((Bool) ⊕ (Unit))) :=
  (if (decide (i < (b.Dels.length : Int))) then (geti b.Dels i).bind fun x_1 => (spec_l01In x_1 0 (wk .i64 ((in_.length : Int) - 1))).bind fun x36 => (if x36 then (geti in_ x_1).bind fun x_2 => some x_2 else some false).bind fun b_2 => (if b_2 then some (.inr (.inl false))
  else some (.inl (wk .i64 (i + 1))))
  else some (.inr (.inr ())))
noncomputable def spec_l06Live (b : T_impl_Body) (in_ : List Bool) : Option Bool :=
  (spec_l01In b.Ins 0 (wk .i64 ((in_.length : Int) - 1))).bind fun x11 => (if (!x11) then some true else (geti in_ b.Ins).bind fun x => some (!x)).bind fun b_1 => (if b_1 then some false
  else (loopM (fun (s' : Int) => spec_l06Live_l1 b in_ s') (0)).bind fun p => (match p with | .inl c' => some c' | .inr q => spec_l06Live_j1))
noncomputable def spec_l06Places_j1 (out_ : List Int) : Option ((List Int)) :=
  some out_
noncomputable def spec_l06Places_l1 (w : T_impl_Weave) (in_ : List Bool) (i : Int) (out__1 : List Int) : Option ((Int × (List Int)) ⊕ ((List Int))) :=
  (if (decide (i < (w.Bodies.length : Int))) then (geti w.Bodies i).bind fun x => (spec_l06Live (T_impl_Body.mk x.Line x.Ins x.Ord x.Dels) in_).bind fun x21 => (if x21 then (appn out__1 [i]).bind fun l => some (.inl ((wk .i64 (i + 1)), l))
  else some (.inl ((wk .i64 (i + 1)), out__1)))
  else some (.inr out__1))
noncomputable def spec_l06Places (w : T_impl_Weave) (in_ : List Bool) : Option (List Int) :=
  (loopM (fun (s' : Int × (List Int)) => spec_l06Places_l1 w in_ s'.1 s'.2) (0, [])).bind fun p => spec_l06Places_j1 p
noncomputable def spec_l06Seen (w : T_impl_Weave) (parents : List Int) : Option (List Int) :=
  (spec_l05Set w.Parents parents).bind fun x9 => (spec_l06Places (T_impl_Weave.mk w.Parents w.Bodies) x9).bind fun x10 => some x10
noncomputable def spec_l06Lines_j1 (out_ : List ByteArray) : Option ((List ByteArray)) :=
  some out_
noncomputable def spec_l06Lines_l1 (w : T_impl_Weave) (places : List Int) (i : Int) (out__1 : List ByteArray) : Option ((Int × (List ByteArray)) ⊕ ((List ByteArray))) :=
  (if (decide (i < (places.length : Int))) then (geti places i).bind fun x => (geti w.Bodies x).bind fun x_1 => (appn out__1 [x_1.Line]).bind fun l => some (.inl ((wk .i64 (i + 1)), l))
  else some (.inr out__1))
noncomputable def spec_l06Lines (w : T_impl_Weave) (places : List Int) : Option (List ByteArray) :=
  (loopM (fun (s' : Int × (List ByteArray)) => spec_l06Lines_l1 w places s'.1 s'.2) (0, [])).bind fun p => spec_l06Lines_j1 p
noncomputable def spec_l01Pick (c : T_spec_l01Cur) (list_ : List ByteArray) : Option (ByteArray × T_spec_l01Cur) :=
  (spec_l01Below (T_spec_l01Cur.mk c.b c.i c.h) (list_.length : Int)).bind fun x9 => (geti list_ x9.1).bind fun x => some (x, (T_spec_l01Cur.mk x9.2.b x9.2.i x9.2.h))
noncomputable def spec_l03Line (c : T_spec_l01Cur) : Option (ByteArray × T_spec_l01Cur) :=
  (spec_l01Pick (T_spec_l01Cur.mk c.b c.i c.h) [(ByteArray.mk #[97]), (ByteArray.mk #[98]), (ByteArray.mk #[99]), (ByteArray.mk #[100]), (ByteArray.mk #[101]), (ByteArray.mk #[]), (ByteArray.mk #[105, 102, 32, 120]), (ByteArray.mk #[101, 110, 100]), (ByteArray.mk #[97]), (ByteArray.mk #[98])]).bind fun x5 => some (x5.1, (T_spec_l01Cur.mk x5.2.b x5.2.i x5.2.h))
noncomputable def spec_l04Near_j1 (c_1 : List Int) (c_2 : Int) (c_3 : Int) (out_ : List ByteArray) : Option ((List ByteArray) × T_spec_l01Cur) :=
  (spec_l01Once (T_spec_l01Cur.mk c_1 c_2 c_3) 4).bind fun x44 => (if x44.1 then (spec_l03Line (T_spec_l01Cur.mk x44.2.b x44.2.i x44.2.h)).bind fun x47 => (appn out_ [x47.1]).bind fun l => some (l, (T_spec_l01Cur.mk x47.2.b x47.2.i x47.2.h))
  else some (out_, (T_spec_l01Cur.mk x44.2.b x44.2.i x44.2.h)))
noncomputable def spec_l04Near_l1 (a : List ByteArray) (i : Int) (c_4 : List Int) (c_5 : Int) (c_6 : Int) (out__1 : List ByteArray) : Option ((Int × (List Int) × Int × Int × (List ByteArray)) ⊕ ((List Int) × Int × Int × (List ByteArray))) :=
  (if (decide (i < (a.length : Int))) then (spec_l01Below (T_spec_l01Cur.mk c_4 c_5 c_6) 6).bind fun x15 => (if (x15.1 == 0) then (spec_l03Line (T_spec_l01Cur.mk x15.2.b x15.2.i x15.2.h)).bind fun x27 => (appn out__1 [x27.1]).bind fun l_1 => some (.inl ((wk .i64 (i + 1)), x27.2.b, x27.2.i, x27.2.h, l_1))
  else (if (x15.1 == 1) then (geti a i).bind fun x => (spec_l03Line (T_spec_l01Cur.mk x15.2.b x15.2.i x15.2.h)).bind fun x34 => (appn out__1 [x34.1, x]).bind fun l_2 => some (.inl ((wk .i64 (i + 1)), x34.2.b, x34.2.i, x34.2.h, l_2))
  else (if (x15.1 == 2) then some (.inl ((wk .i64 (i + 1)), x15.2.b, x15.2.i, x15.2.h, out__1))
  else (geti a i).bind fun x_1 => (appn out__1 [x_1]).bind fun l_3 => some (.inl ((wk .i64 (i + 1)), x15.2.b, x15.2.i, x15.2.h, l_3)))))
  else some (.inr (c_4, c_5, c_6, out__1)))
noncomputable def spec_l04Near (c : T_spec_l01Cur) (a : List ByteArray) : Option ((List ByteArray) × T_spec_l01Cur) :=
  (loopM (fun (s' : Int × (List Int) × Int × Int × (List ByteArray)) => spec_l04Near_l1 a s'.1 s'.2.1 s'.2.2.1 s'.2.2.2.1 s'.2.2.2.2) (0, c.b, c.i, c.h, [])).bind fun p => spec_l04Near_j1 p.1 p.2.1 p.2.2.1 p.2.2.2
noncomputable def spec_l03Lines_j1 (c_1 : List Int) (c_2 : Int) (c_3 : Int) (out_ : List ByteArray) : Option ((List ByteArray) × T_spec_l01Cur) :=
  some (out_, (T_spec_l01Cur.mk c_1 c_2 c_3))
noncomputable def spec_l03Lines_l1 (n : Int) (i : Int) (c_4 : List Int) (c_5 : Int) (c_6 : Int) (out__1 : List ByteArray) : Option ((Int × (List Int) × Int × Int × (List ByteArray)) ⊕ ((List Int) × Int × Int × (List ByteArray))) :=
  (spec_l01Below (T_spec_l01Cur.mk c_4 c_5 c_6) (wk .i64 (n + 1))).bind fun x12 => (if (decide (i < x12.1)) then (spec_l03Line (T_spec_l01Cur.mk x12.2.b x12.2.i x12.2.h)).bind fun x18 => (appn out__1 [x18.1]).bind fun l => some (.inl ((wk .i64 (i + 1)), x18.2.b, x18.2.i, x18.2.h, l))
  else some (.inr (x12.2.b, x12.2.i, x12.2.h, out__1)))
noncomputable def spec_l03Lines (c : T_spec_l01Cur) (n : Int) : Option ((List ByteArray) × T_spec_l01Cur) :=
  (loopM (fun (s' : Int × (List Int) × Int × Int × (List ByteArray)) => spec_l03Lines_l1 n s'.1 s'.2.1 s'.2.2.1 s'.2.2.2.1 s'.2.2.2.2) (0, c.b, c.i, c.h, [])).bind fun p => spec_l03Lines_j1 p.1 p.2.1 p.2.2.1 p.2.2.2
noncomputable def spec_l05Rise_j1 : Option (Bool) :=
  some true
noncomputable def spec_l05Rise_l1 (list_ : List Int) (n : Int) (i : Int) : Option ((Int) ⊕ ((Bool) ⊕ (Unit))) :=
  (if (decide (i < (list_.length : Int))) then (geti list_ i).bind fun x => (spec_l01In x 0 (wk .i64 (n - 1))).bind fun x18 => (if (!x18) then some true else (if (decide (i > 0)) then (geti list_ (wk .i64 (i - 1))).bind fun x_1 => some (decide (x_1 ≥ x)) else some false).bind fun b_1 => some b_1).bind fun b => (if b then some (.inr (.inl false))
  else some (.inl (wk .i64 (i + 1))))
  else some (.inr (.inr ())))
noncomputable def spec_l05Rise (list_ : List Int) (n : Int) : Option Bool :=
  (loopM (fun (s' : Int) => spec_l05Rise_l1 list_ n s') (0)).bind fun p => (match p with | .inl c' => some c' | .inr q => spec_l05Rise_j1)
noncomputable def spec_l06Parents (w : T_impl_Weave) (parents : List Int) : Option Bool :=
  (if (decide ((parents.length : Int) ≤ 4)) then (spec_l05Rise parents (w.Parents.length : Int)).bind fun x13 => some x13 else some false).bind fun b => some b
noncomputable def spec_LineOk_j1 (line : ByteArray) : Option (Bool) :=
  some (decide ((line.size : Int) ≤ 60))
noncomputable def spec_LineOk_l1 (line : ByteArray) (i : Int) : Option ((Int) ⊕ ((Bool) ⊕ (Unit))) :=
  (if (decide (i < (line.size : Int))) then (sidx line i).bind fun x12 => (if (x12 == 10) then some (.inr (.inl false))
  else some (.inl (wk .i64 (i + 1))))
  else some (.inr (.inr ())))
noncomputable def spec_LineOk (line : ByteArray) : Option Bool :=
  (loopM (fun (s' : Int) => spec_LineOk_l1 line s') (0)).bind fun p => (match p with | .inl c' => some c' | .inr q => spec_LineOk_j1 line)
noncomputable def spec_l03All_j1 : Option (Bool) :=
  some true
noncomputable def spec_l03All_l1 (list_ : List ByteArray) (i : Int) : Option ((Int) ⊕ ((Bool) ⊕ (Unit))) :=
  (if (decide (i < (list_.length : Int))) then (geti list_ i).bind fun x => (spec_LineOk x).bind fun x20 => (if (!x20) then some (.inr (.inl false))
  else some (.inl (wk .i64 (i + 1))))
  else some (.inr (.inr ())))
noncomputable def spec_l03All (list_ : List ByteArray) (most : Int) : Option Bool :=
  (if (decide ((list_.length : Int) > most)) then some false
  else (loopM (fun (s' : Int) => spec_l03All_l1 list_ s') (0)).bind fun p => (match p with | .inl c' => some c' | .inr q => spec_l03All_j1))
noncomputable def spec_LinesOk (list_ : List ByteArray) : Option Bool :=
  (spec_l03All list_ 80).bind fun x4 => some x4
noncomputable def spec_l04Ok (a : List ByteArray) : Option Bool :=
  (spec_l03All a 300).bind fun x4 => some x4
noncomputable def spec_l04Table_j1 (t : List (List Int)) : Option ((List (List Int))) :=
  some t
noncomputable def spec_l04Table_j2 (i : Int) (t_2 : List (List Int)) : Option ((Int × (List (List Int))) ⊕ ((List (List Int)))) :=
  some (.inl ((wk .i64 (i - 1)), t_2))
noncomputable def spec_l04Table_j4 (i : Int) (j : Int) (t_3 : List (List Int)) (x_4 : Int) : Option ((Int × (List (List Int))) ⊕ ((List (List Int)))) :=
  (geti t_3 i).bind fun x_5 => (geti x_5 j).bind fun x_6 => some (.inl ((wk .i64 (j - 1)), (t_3.set i.toNat (x_5.set j.toNat x_4))))
noncomputable def spec_l04Table_j3 (a : List ByteArray) (b : List ByteArray) (i : Int) (j : Int) (t_3 : List (List Int)) (x_3 : Int) : Option ((Int × (List (List Int))) ⊕ ((List (List Int)))) :=
  (geti a i).bind fun x_7 => (geti b j).bind fun x_8 => (if (x_7.toList == x_8.toList) then (geti t_3 (wk .i64 (i + 1))).bind fun x_9 => (geti x_9 (wk .i64 (j + 1))).bind fun x_10 => spec_l04Table_j4 i j t_3 (wk .i64 (x_10 + 1))
  else spec_l04Table_j4 i j t_3 x_3)
noncomputable def spec_l04Table_l2 (a : List ByteArray) (b : List ByteArray) (i : Int) (j : Int) (t_3 : List (List Int)) : Option ((Int × (List (List Int))) ⊕ ((List (List Int)))) :=
  (if (decide (j ≥ 0)) then some (decide (i < (a.length : Int))) else some false).bind fun b_1 => (if b_1 then (geti t_3 (wk .i64 (i + 1))).bind fun x_1 => (geti x_1 j).bind fun x_2 => (geti t_3 i).bind fun x_11 => (geti x_11 (wk .i64 (j + 1))).bind fun x_12 => (if (decide (x_12 > x_2)) then spec_l04Table_j3 a b i j t_3 x_12
  else spec_l04Table_j3 a b i j t_3 x_2)
  else some (.inr t_3))
noncomputable def spec_l04Table_l1 (a : List ByteArray) (b : List ByteArray) (i : Int) (t_1 : List (List Int)) : Option ((Int × (List (List Int))) ⊕ ((List (List Int)))) :=
  (if (decide (i ≥ 0)) then ((mkl (wk .i64 ((b.length : Int) + 1)) (wk .i64 ((b.length : Int) + 1)) 0 : Option (List Int))).bind fun x24 => (geti t_1 i).bind fun x => (loopM (fun (s' : Int × (List (List Int))) => spec_l04Table_l2 a b i s'.1 s'.2) ((wk .i64 ((b.length : Int) - 1)), (t_1.set i.toNat x24))).bind fun p_1 => spec_l04Table_j2 i p_1
  else some (.inr t_1))
noncomputable def spec_l04Table (a : List ByteArray) (b : List ByteArray) : Option (List (List Int)) :=
  ((mkl (wk .i64 ((a.length : Int) + 1)) (wk .i64 ((a.length : Int) + 1)) [] : Option (List (List Int)))).bind fun x12 => (loopM (fun (s' : Int × (List (List Int))) => spec_l04Table_l1 a b s'.1 s'.2) ((a.length : Int), x12)).bind fun p => spec_l04Table_j1 p
noncomputable def spec_Align_j2 (out__1 : List Int) : Option ((List Int)) :=
  some out__1
noncomputable def spec_Align_l1 (b : List ByteArray) (j_1 : Int) (out__2 : List Int) : Option ((Int × (List Int)) ⊕ ((List Int))) :=
  (if (decide (j_1 < (b.length : Int))) then (appn out__2 [(-1)]).bind fun l => some (.inl ((wk .i64 (j_1 + 1)), l))
  else some (.inr out__2))
noncomputable def spec_Align_j1 (b : List ByteArray) (j : Int) (out_ : List Int) : Option ((List Int)) :=
  (loopM (fun (s' : Int × (List Int)) => spec_Align_l1 b s'.1 s'.2) (j, out_)).bind fun p => spec_Align_j2 p
noncomputable def spec_Align_l2 (a : List ByteArray) (b : List ByteArray) (x21 : (List (List Int))) (i : Int) (j_2 : Int) (out__3 : List Int) : Option ((Int × Int × (List Int)) ⊕ (Int × (List Int))) :=
  (if (decide (i < (a.length : Int))) then some (decide (j_2 < (b.length : Int))) else some false).bind fun b_2 => (if b_2 then (geti a i).bind fun x => (geti b j_2).bind fun x_1 => (if (x.toList == x_1.toList) then (appn out__3 [i]).bind fun l_1 => some (.inl ((wk .i64 (i + 1)), (wk .i64 (j_2 + 1)), l_1))
  else (geti x21 (wk .i64 (i + 1))).bind fun x_2 => (geti x_2 j_2).bind fun x_3 => (geti x21 i).bind fun x_4 => (geti x_4 (wk .i64 (j_2 + 1))).bind fun x_5 => (if (decide (x_3 ≥ x_5)) then some (.inl ((wk .i64 (i + 1)), j_2, out__3))
  else (appn out__3 [(-1)]).bind fun l_2 => some (.inl (i, (wk .i64 (j_2 + 1)), l_2))))
  else some (.inr (j_2, out__3)))
noncomputable def spec_Align (a : List ByteArray) (b : List ByteArray) : Option (List Int) :=
  (spec_l04Ok a).bind fun x11 => (if (!x11) then some true else (spec_l04Ok b).bind fun x15 => some (!x15)).bind fun b_1 => (if b_1 then some []
  else (spec_l04Table a b).bind fun x21 => (loopM (fun (s' : Int × Int × (List Int)) => spec_Align_l2 a b x21 s'.1 s'.2.1 s'.2.2) (0, 0, [])).bind fun p_1 => spec_Align_j1 b p_1.1 p_1.2)
noncomputable def spec_l06Add_j3 (w : T_impl_Weave) (l_1 : List (List Int)) (out__1 : List T_impl_Body) : Option (T_impl_Weave × Int × Int) :=
  (if (decide ((out__1.length : Int) > 300)) then some ((T_impl_Weave.mk [] []), 0, 4)
  else some ((T_impl_Weave.mk l_1 out__1), (w.Parents.length : Int), 0))
noncomputable def spec_l06Add_j4 (i : Int) (ord_1 : Int) (out__3 : List T_impl_Body) : Option ((Int × Int × (List T_impl_Body)) ⊕ ((List T_impl_Body))) :=
  some (.inl (ord_1, (wk .i64 (i + 1)), out__3))
noncomputable def spec_l06Add_l2 (w : T_impl_Weave) (behind : List (List ByteArray)) (i : Int) (ord_2 : Int) (k : Int) (out__5 : List T_impl_Body) : Option ((Int × Int × (List T_impl_Body)) ⊕ (Int × (List T_impl_Body))) :=
  (geti behind i).bind fun x => (if (decide (k < (x.length : Int))) then (geti x k).bind fun x_1 => (appn out__5 [(T_impl_Body.mk x_1 (w.Parents.length : Int) ord_2 [])]).bind fun l_2 => some (.inl ((wk .i64 (ord_2 + 1)), (wk .i64 (k + 1)), l_2))
  else some (.inr (ord_2, out__5)))
noncomputable def spec_l06Add_j5 (w : T_impl_Weave) (behind : List (List ByteArray)) (ord : Int) (i : Int) (out__4 : List T_impl_Body) : Option ((Int × Int × (List T_impl_Body)) ⊕ ((List T_impl_Body))) :=
  (loopM (fun (s' : Int × Int × (List T_impl_Body)) => spec_l06Add_l2 w behind i s'.1 s'.2.1 s'.2.2) (ord, 0, out__4)).bind fun p_1 => spec_l06Add_j4 i p_1.1 p_1.2
noncomputable def spec_l06Add_j6 (w : T_impl_Weave) (behind : List (List ByteArray)) (ord : Int) (i : Int) (out__2 : List T_impl_Body) (x_2 : T_impl_Body) (b : List Int) : Option ((Int × Int × (List T_impl_Body)) ⊕ ((List T_impl_Body))) :=
  (appn out__2 [(T_impl_Body.mk x_2.Line x_2.Ins x_2.Ord b)]).bind fun l_4 => spec_l06Add_j5 w behind ord i l_4
noncomputable def spec_l06Add_l1 (w : T_impl_Weave) (behind : List (List ByteArray)) (stays : List Bool) (x120 : (List Bool)) (ord : Int) (i : Int) (out__2 : List T_impl_Body) : Option ((Int × Int × (List T_impl_Body)) ⊕ ((List T_impl_Body))) :=
  (if (decide (i ≤ (w.Bodies.length : Int))) then (if (decide (i > 0)) then (geti w.Bodies (wk .i64 (i - 1))).bind fun x_2 => (appn ([] : List Int) x_2.Dels).bind fun l_3 => (geti stays (wk .i64 (i - 1))).bind fun x_3 => (if (!x_3) then (spec_l06Live (T_impl_Body.mk x_2.Line x_2.Ins x_2.Ord l_3) x120).bind fun x150 => some x150 else some false).bind fun b_1 => (if b_1 then (appn l_3 [(w.Parents.length : Int)]).bind fun l_5 => spec_l06Add_j6 w behind ord i out__2 x_2 l_5
  else spec_l06Add_j6 w behind ord i out__2 x_2 l_3)
  else spec_l06Add_j5 w behind ord i out__2)
  else some (.inr out__2))
noncomputable def spec_l06Add_j2 (w : T_impl_Weave) (parents : List Int) (behind : List (List ByteArray)) (stays : List Bool) (out_ : List (List Int)) : Option (T_impl_Weave × Int × Int) :=
  (appn ([] : List Int) parents).bind fun l => (appn out_ [l]).bind fun l_1 => (spec_l05Set w.Parents parents).bind fun x120 => (loopM (fun (s' : Int × Int × (List T_impl_Body)) => spec_l06Add_l1 w behind stays x120 s'.1 s'.2.1 s'.2.2) (0, 0, [])).bind fun p => spec_l06Add_j3 w l_1 p
noncomputable def spec_l06Add_l3 (w : T_impl_Weave) (k_1 : Int) (out__6 : List (List Int)) : Option ((Int × (List (List Int))) ⊕ ((List (List Int)))) :=
  (if (decide (k_1 < (w.Parents.length : Int))) then (geti w.Parents k_1).bind fun x_4 => (appn ([] : List Int) x_4).bind fun l_6 => (appn out__6 [l_6]).bind fun l_7 => some (.inl ((wk .i64 (k_1 + 1)), l_7))
  else some (.inr out__6))
noncomputable def spec_l06Add_j1 (w : T_impl_Weave) (parents : List Int) (behind : List (List ByteArray)) (stays : List Bool) : Option (T_impl_Weave × Int × Int) :=
  (loopM (fun (s' : Int × (List (List Int))) => spec_l06Add_l3 w s'.1 s'.2) (0, [])).bind fun p_2 => spec_l06Add_j2 w parents behind stays p_2
noncomputable def spec_l06Add_l4 (lines : List ByteArray) (x40 : (List Int)) (x45 : (List Int)) (at_ : Int) (i_1 : Int) (behind_1 : List (List ByteArray)) (stays_1 : List Bool) : Option ((Int × Int × (List (List ByteArray)) × (List Bool)) ⊕ ((List (List ByteArray)) × (List Bool))) :=
  (if (decide (i_1 < (lines.length : Int))) then (geti x45 i_1).bind fun x_5 => (if (decide (x_5 ≥ 0)) then (geti x40 x_5).bind fun x_6 => (geti stays_1 (wk .i64 ((wk .i64 (x_6 + 1)) - 1))).bind fun x_7 => some (.inl ((wk .i64 (x_6 + 1)), (wk .i64 (i_1 + 1)), behind_1, (stays_1.set ((wk .i64 ((wk .i64 (x_6 + 1)) - 1)).toNat) true)))
  else (geti behind_1 at_).bind fun x_8 => (geti lines i_1).bind fun x_9 => (appn x_8 [x_9]).bind fun l_8 => some (.inl (at_, (wk .i64 (i_1 + 1)), (behind_1.set at_.toNat l_8), stays_1)))
  else some (.inr (behind_1, stays_1)))
noncomputable def spec_l06Add (w : T_impl_Weave) (parents : List Int) (lines : List ByteArray) : Option (T_impl_Weave × Int × Int) :=
  (spec_l06Parents (T_impl_Weave.mk w.Parents w.Bodies) parents).bind fun x25 => (if (!x25) then some ((T_impl_Weave.mk [] []), 0, 2)
  else (spec_LinesOk lines).bind fun x29 => (if (!x29) then some ((T_impl_Weave.mk [] []), 0, 3)
  else (if ((w.Parents.length : Int) == 40) then some ((T_impl_Weave.mk [] []), 0, 4)
  else (spec_l06Seen (T_impl_Weave.mk w.Parents w.Bodies) parents).bind fun x40 => (spec_l06Lines (T_impl_Weave.mk w.Parents w.Bodies) x40).bind fun x43 => (spec_Align x43 lines).bind fun x45 => ((mkl (wk .i64 ((w.Bodies.length : Int) + 1)) (wk .i64 ((w.Bodies.length : Int) + 1)) [] : Option (List (List ByteArray)))).bind fun x50 => ((mkl (w.Bodies.length : Int) (w.Bodies.length : Int) false : Option (List Bool))).bind fun x54 => (loopM (fun (s' : Int × Int × (List (List ByteArray)) × (List Bool)) => spec_l06Add_l4 lines x40 x45 s'.1 s'.2.1 s'.2.2.1 s'.2.2.2) (0, 0, x50, x54)).bind fun p_3 => spec_l06Add_j1 w parents p_3.1 p_3.2)))
noncomputable def spec_l06Right_j1 (c_1 : List Int) (c_2 : Int) (c_3 : Int) (w : List (List Int)) (w_1 : List T_impl_Body) : Option (T_impl_Weave × T_spec_l01Cur) :=
  some ((T_impl_Weave.mk w w_1), (T_spec_l01Cur.mk c_1 c_2 c_3))
noncomputable def spec_l06Right_j3 (v : Int) (w_2 : List (List Int)) (w_3 : List T_impl_Body) (x20 : (List Int) × T_spec_l01Cur) (c_7 : List Int) (c_8 : Int) (c_9 : Int) (lines_1 : List ByteArray) : Option ((Int × (List Int) × Int × Int × (List (List Int)) × (List T_impl_Body)) ⊕ ((List Int) × Int × Int × (List (List Int)) × (List T_impl_Body))) :=
  (spec_l06Add (T_impl_Weave.mk w_2 w_3) x20.1 lines_1).bind fun x45 => (if (x45.2.2 == 0) then some (.inl ((wk .i64 (v + 1)), c_7, c_8, c_9, x45.1.Parents, x45.1.Bodies))
  else some (.inl ((wk .i64 (v + 1)), c_7, c_8, c_9, w_2, w_3)))
noncomputable def spec_l06Right_j2 (v : Int) (w_2 : List (List Int)) (w_3 : List T_impl_Body) (x20 : (List Int) × T_spec_l01Cur) (c_7 : List Int) (c_8 : Int) (c_9 : Int) (lines : List ByteArray) : Option ((Int × (List Int) × Int × Int × (List (List Int)) × (List T_impl_Body)) ⊕ ((List Int) × Int × Int × (List (List Int)) × (List T_impl_Body))) :=
  (if (decide ((lines.length : Int) > 30)) then (cutH lines 30).bind fun x40 => spec_l06Right_j3 v w_2 w_3 x20 c_7 c_8 c_9 x40
  else spec_l06Right_j3 v w_2 w_3 x20 c_7 c_8 c_9 lines)
noncomputable def spec_l06Right_l1 (n : Int) (v : Int) (c_4 : List Int) (c_5 : Int) (c_6 : Int) (w_2 : List (List Int)) (w_3 : List T_impl_Body) : Option ((Int × (List Int) × Int × Int × (List (List Int)) × (List T_impl_Body)) ⊕ ((List Int) × Int × Int × (List (List Int)) × (List T_impl_Body))) :=
  (if (decide (v < n)) then (spec_l05Parents (T_spec_l01Cur.mk c_4 c_5 c_6) v).bind fun x20 => (spec_l06Seen (T_impl_Weave.mk w_2 w_3) x20.1).bind fun x25 => (spec_l06Lines (T_impl_Weave.mk w_2 w_3) x25).bind fun x26 => (spec_l04Near (T_spec_l01Cur.mk x20.2.b x20.2.i x20.2.h) x26).bind fun x27 => (if (v == 0) then some (true, x27.2.b, x27.2.i, x27.2.h) else (spec_l01Once (T_spec_l01Cur.mk x27.2.b x27.2.i x27.2.h) 12).bind fun x32 => some (x32.1, x32.2.b, x32.2.i, x32.2.h)).bind fun b => (if b.1 then (spec_l03Lines (T_spec_l01Cur.mk b.2.1 b.2.2.1 b.2.2.2) 9).bind fun x35 => spec_l06Right_j2 v w_2 w_3 x20 x35.2.b x35.2.i x35.2.h x35.1
  else spec_l06Right_j2 v w_2 w_3 x20 b.2.1 b.2.2.1 b.2.2.2 x27.1)
  else some (.inr (c_4, c_5, c_6, w_2, w_3)))
noncomputable def spec_l06Right (c : T_spec_l01Cur) (n : Int) : Option (T_impl_Weave × T_spec_l01Cur) :=
  (loopM (fun (s' : Int × (List Int) × Int × Int × (List (List Int)) × (List T_impl_Body)) => spec_l06Right_l1 n s'.1 s'.2.1 s'.2.2.1 s'.2.2.2.1 s'.2.2.2.2.1 s'.2.2.2.2.2) (0, c.b, c.i, c.h, [], [])).bind fun p => spec_l06Right_j1 p.1 p.2.1 p.2.2.1 p.2.2.2.1 p.2.2.2.2
noncomputable def spec_DrawPair (code : List Int) : Option (T_impl_Weave × Int × Int) :=
  (spec_l01New code).bind fun x9 => (spec_l06Size code).bind fun x13 => (spec_l01Below (T_spec_l01Cur.mk x9.b x9.i x9.h) x13).bind fun x14 => (spec_l06Right (T_spec_l01Cur.mk x14.2.b x14.2.i x14.2.h) (wk .i64 (2 + x14.1))).bind fun x16 => (spec_l01Below (T_spec_l01Cur.mk x16.2.b x16.2.i x16.2.h) (x16.1.Parents.length : Int)).bind fun x21 => (spec_l01Below (T_spec_l01Cur.mk x21.2.b x21.2.i x21.2.h) (x16.1.Parents.length : Int)).bind fun x28 => some ((T_impl_Weave.mk x16.1.Parents x16.1.Bodies), x21.1, x28.1)
noncomputable def spec_GraphOk_j1 : Option (Bool) :=
  some true
noncomputable def spec_GraphOk_l1 (parents : List (List Int)) (v : Int) : Option ((Int) ⊕ ((Bool) ⊕ (Unit))) :=
  (if (decide (v < (parents.length : Int))) then (geti parents v).bind fun x => (if (decide ((x.length : Int) > 4)) then some true else (spec_l05Rise x v).bind fun x25 => some (!x25)).bind fun b => (if b then some (.inr (.inl false))
  else some (.inl (wk .i64 (v + 1))))
  else some (.inr (.inr ())))
noncomputable def spec_GraphOk (parents : List (List Int)) : Option Bool :=
  (if (decide ((parents.length : Int) > 40)) then some false
  else (loopM (fun (s' : Int) => spec_GraphOk_l1 parents s') (0)).bind fun p => (match p with | .inl c' => some c' | .inr q => spec_GraphOk_j1))
noncomputable def spec_l06Closure (w : T_impl_Weave) (v : Int) : Option (List Bool) :=
  (spec_l05Set w.Parents [v]).bind fun x9 => some x9
noncomputable def spec_WeaveOk_j3 : Option (Bool) :=
  some true
noncomputable def spec_WeaveOk_l1 (w : T_impl_Weave) (born : List Int) (v : Int) : Option ((Int) ⊕ ((Bool) ⊕ (Unit))) :=
  (if (decide (v < (w.Parents.length : Int))) then (geti born v).bind fun x => (if (decide (x > 80)) then some true else (spec_l06Closure (T_impl_Weave.mk w.Parents w.Bodies) v).bind fun x126 => (spec_l06Places (T_impl_Weave.mk w.Parents w.Bodies) x126).bind fun x127 => some (decide ((x127.length : Int) > 80))).bind fun b_1 => (if b_1 then some (.inr (.inl false))
  else some (.inl (wk .i64 (v + 1))))
  else some (.inr (.inr ())))
noncomputable def spec_WeaveOk_j2 (w : T_impl_Weave) (born : List Int) : Option (Bool) :=
  (loopM (fun (s' : Int) => spec_WeaveOk_l1 w born s') (0)).bind fun p => (match p with | .inl c' => some c' | .inr q => spec_WeaveOk_j3)
noncomputable def spec_WeaveOk_j4 (i : Int) (born_2 : List Int) : Option ((Int × (List Int)) ⊕ ((Bool) ⊕ ((List Int)))) :=
  some (.inl ((wk .i64 (i + 1)), born_2))
noncomputable def spec_WeaveOk_l3 (proper : List (List Bool)) (x_1 : T_impl_Body) (k : Int) : Option ((Int) ⊕ (((Int × (List Int)) ⊕ ((Bool) ⊕ ((List Int)))) ⊕ (Unit))) :=
  (if (decide (k < (x_1.Dels.length : Int))) then (geti x_1.Dels k).bind fun x_4 => (geti proper x_4).bind fun x_5 => (spec_l06Live (T_impl_Body.mk x_1.Line x_1.Ins x_1.Ord x_1.Dels) x_5).bind fun x110 => (if (!x110) then some (.inr (.inl (.inr (.inl false))))
  else some (.inl (wk .i64 (k + 1))))
  else some (.inr (.inr ())))
noncomputable def spec_WeaveOk_l2 (w : T_impl_Weave) (proper : List (List Bool)) (i : Int) (born_1 : List Int) : Option ((Int × (List Int)) ⊕ ((Bool) ⊕ ((List Int)))) :=
  (if (decide (i < (w.Bodies.length : Int))) then (geti w.Bodies i).bind fun x_1 => (spec_LineOk x_1.Line).bind fun x57 => (if (!x57) then some true else (spec_l01In x_1.Ins 0 (wk .i64 ((w.Parents.length : Int) - 1))).bind fun x64 => some (!x64)).bind fun b_2 => (if b_2 then some true else (geti born_1 x_1.Ins).bind fun x_2 => some (x_1.Ord != x_2)).bind fun b_3 => (if b_3 then some true else (spec_l05Rise x_1.Dels (w.Parents.length : Int)).bind fun x81 => some (!x81)).bind fun b_4 => (if b_4 then some (.inr (.inl false))
  else (geti born_1 x_1.Ins).bind fun x_3 => (loopM (fun (s' : Int) => spec_WeaveOk_l3 proper x_1 s') (0)).bind fun p_2 => (match p_2 with | .inl c' => some c' | .inr q_1 => spec_WeaveOk_j4 i (born_1.set x_1.Ins.toNat (wk .i64 (x_3 + 1)))))
  else some (.inr (.inr born_1)))
noncomputable def spec_WeaveOk_j1 (w : T_impl_Weave) (x25 : List Int) (proper : List (List Bool)) : Option (Bool) :=
  (loopM (fun (s' : Int × (List Int)) => spec_WeaveOk_l2 w proper s'.1 s'.2) (0, x25)).bind fun p_1 => (match p_1 with | .inl c' => some c' | .inr q_2 => spec_WeaveOk_j2 w q_2)
noncomputable def spec_WeaveOk_l4 (w : T_impl_Weave) (v_1 : Int) (proper_1 : List (List Bool)) : Option ((Int × (List (List Bool))) ⊕ ((List (List Bool)))) :=
  (if (decide (v_1 < (w.Parents.length : Int))) then (geti w.Parents v_1).bind fun x_6 => (spec_l05Set w.Parents x_6).bind fun x40 => (appn proper_1 [x40]).bind fun l => some (.inl ((wk .i64 (v_1 + 1)), l))
  else some (.inr proper_1))
noncomputable def spec_WeaveOk (w : T_impl_Weave) : Option Bool :=
  (spec_GraphOk w.Parents).bind fun x13 => (if (!x13) then some true else some (decide ((w.Bodies.length : Int) > 300))).bind fun b => (if b then some false
  else ((mkl (w.Parents.length : Int) (w.Parents.length : Int) 0 : Option (List Int))).bind fun x25 => (loopM (fun (s' : Int × (List (List Bool))) => spec_WeaveOk_l4 w s'.1 s'.2) (0, [])).bind fun p_3 => spec_WeaveOk_j1 w x25 p_3)
noncomputable def spec_l06Has (w : T_impl_Weave) (v : Int) : Option Bool :=
  (spec_l01In v 0 (wk .i64 ((w.Parents.length : Int) - 1))).bind fun x10 => some x10
noncomputable def spec_l06Text (w : T_impl_Weave) (v : Int) : Option (List ByteArray) :=
  (spec_l06Closure (T_impl_Weave.mk w.Parents w.Bodies) v).bind fun x9 => (spec_l06Places (T_impl_Weave.mk w.Parents w.Bodies) x9).bind fun x10 => (spec_l06Lines (T_impl_Weave.mk w.Parents w.Bodies) x10).bind fun x11 => some x11
noncomputable def spec_Extract (w : T_impl_Weave) (v : Int) : Option ((List ByteArray) × Int) :=
  (spec_WeaveOk (T_impl_Weave.mk w.Parents w.Bodies)).bind fun x7 => (if (!x7) then some ([], 1)
  else (spec_l06Has (T_impl_Weave.mk w.Parents w.Bodies) v).bind fun x12 => (if (!x12) then some ([], 2)
  else (spec_l06Text (T_impl_Weave.mk w.Parents w.Bodies) v).bind fun x17 => some (x17, 0)))
noncomputable def impl_inRange (n : Int) (least : Int) (most : Int) : Option Bool :=
  (if (decide (n ≥ least)) then some (decide (n ≤ most)) else some false).bind fun b => some b
noncomputable def impl_ascends_j1 : Option (Bool) :=
  some true
noncomputable def impl_ascends_l1 (list_ : List Int) (below : Int) (x9 : Int) : Option ((Int) ⊕ ((Bool) ⊕ (Unit))) :=
  (if (decide (x9 < (list_.length : Int))) then (geti list_ x9).bind fun x => (impl_inRange x 0 (wk .i64 (below - 1))).bind fun x17 => (if (!x17) then some true else (if (decide (x9 > 0)) then (geti list_ (wk .i64 (x9 - 1))).bind fun x_1 => some (decide (x ≤ x_1)) else some false).bind fun b_1 => some b_1).bind fun b => (if b then some (.inr (.inl false))
  else some (.inl (wk .i64 (x9 + 1))))
  else some (.inr (.inr ())))
noncomputable def impl_ascends (list_ : List Int) (below : Int) : Option Bool :=
  (loopM (fun (s' : Int) => impl_ascends_l1 list_ below s') (0)).bind fun p => (match p with | .inl c' => some c' | .inr q => impl_ascends_j1)
noncomputable def impl_GraphOk_j1 (parents : List (List Int)) : Option (Bool) :=
  some (decide ((parents.length : Int) ≤ 40))
noncomputable def impl_GraphOk_l1 (parents : List (List Int)) (x7 : Int) : Option ((Int) ⊕ ((Bool) ⊕ (Unit))) :=
  (if (decide (x7 < (parents.length : Int))) then (geti parents x7).bind fun x => (if (decide ((x.length : Int) > 4)) then some true else (impl_ascends x x7).bind fun x18 => some (!x18)).bind fun b => (if b then some (.inr (.inl false))
  else some (.inl (wk .i64 (x7 + 1))))
  else some (.inr (.inr ())))
noncomputable def impl_GraphOk (parents : List (List Int)) : Option Bool :=
  (loopM (fun (s' : Int) => impl_GraphOk_l1 parents s') (0)).bind fun p => (match p with | .inl c' => some c' | .inr q => impl_GraphOk_j1 parents)
noncomputable def impl_unionOf_j1 (s : Int) : Option (Int) :=
  some s
noncomputable def impl_unionOf_l1 (closed : List Int) (list_ : List Int) (s_1 : Int) (x10 : Int) : Option ((Int × Int) ⊕ (Int)) :=
  (if (decide (x10 < (list_.length : Int))) then (geti list_ x10).bind fun x => (geti closed x).bind fun x_1 => some (.inl ((bits .or .u64 s_1 x_1), (wk .i64 (x10 + 1))))
  else some (.inr s_1))
noncomputable def impl_unionOf (closed : List Int) (list_ : List Int) : Option Int :=
  (loopM (fun (s' : Int × Int) => impl_unionOf_l1 closed list_ s'.1 s'.2) (0, 0)).bind fun p => impl_unionOf_j1 p
noncomputable def impl_closures_j1 (out_ : List Int) : Option ((List Int)) :=
  some out_
noncomputable def impl_closures_l1 (parents : List (List Int)) (x11 : Int) (out__1 : List Int) : Option ((Int × (List Int)) ⊕ ((List Int))) :=
  (if (decide (x11 < (parents.length : Int))) then (geti parents x11).bind fun x => (impl_unionOf out__1 x).bind fun x20 => (chk (¬ (wk .u64 x11) < 0)).bind fun u => (geti out__1 x11).bind fun x_1 => some (.inl ((wk .i64 (x11 + 1)), (out__1.set x11.toNat (bits .or .u64 x20 (shlI .u64 1 (wk .u64 x11))))))
  else some (.inr out__1))
noncomputable def impl_closures (parents : List (List Int)) : Option (List Int) :=
  ((mkl (parents.length : Int) (parents.length : Int) 0 : Option (List Int))).bind fun x8 => (loopM (fun (s' : Int × (List Int)) => impl_closures_l1 parents s'.1 s'.2) (0, x8)).bind fun p => impl_closures_j1 p
noncomputable def internal_stringslite_IndexByte (s : ByteArray) (c : Int) : Option Int :=
  some (idxB s c)
noncomputable def internal_stringslite_Index (s : ByteArray) (substr : ByteArray) : Option Int :=
  (if ((substr.size : Int) == 0) then some true else some (substr.toList == s.toList)).bind fun b => (if b then some 0
  else (if ((substr.size : Int) == 1) then (sidx substr 0).bind fun x29 => (internal_stringslite_IndexByte s x29).bind fun x30 => some x30
  else (if (decide ((substr.size : Int) ≥ (s.size : Int))) then some (-1)
  else none)))
noncomputable def strings_Index (s : ByteArray) (substr : ByteArray) : Option Int :=
  (internal_stringslite_Index s substr).bind fun x7 => some x7
noncomputable def strings_Contains (s : ByteArray) (substr : ByteArray) : Option Bool :=
  (strings_Index s substr).bind fun x7 => some (decide (x7 ≥ 0))
noncomputable def impl_LineOk (line : ByteArray) : Option Bool :=
  (if (decide ((line.size : Int) ≤ 60)) then (strings_Contains line (ByteArray.mk #[10])).bind fun x8 => some (!x8) else some false).bind fun b => some b
noncomputable def impl_isPlace (n : Int) (size : Int) : Option Bool :=
  (impl_inRange n 0 (wk .i64 (size - 1))).bind fun x8 => some x8
noncomputable def impl_set_has (s : Int) (v : Int) : Option Bool :=
  (impl_inRange v 0 63).bind fun x6 => (if x6 then (chk (¬ (wk .u64 v) < 0)).bind fun u => some ((bits .and .u64 (shrI .u64 s (wk .u64 v)) 1) == 1) else some false).bind fun b => some b
noncomputable def impl_setOf_j1 (s : Int) : Option (Int) :=
  some s
noncomputable def impl_setOf_l1 (list_ : List Int) (s_1 : Int) (x8 : Int) : Option ((Int × Int) ⊕ (Int)) :=
  (if (decide (x8 < (list_.length : Int))) then (geti list_ x8).bind fun x => (impl_inRange x 0 63).bind fun x13 => (if x13 then (chk (¬ (wk .u64 x) < 0)).bind fun u => some (.inl ((bits .or .u64 s_1 (shlI .u64 1 (wk .u64 x))), (wk .i64 (x8 + 1))))
  else some (.inl (s_1, (wk .i64 (x8 + 1)))))
  else some (.inr s_1))
noncomputable def impl_setOf (list_ : List Int) : Option Int :=
  (loopM (fun (s' : Int × Int) => impl_setOf_l1 list_ s'.1 s'.2) (0, 0)).bind fun p => impl_setOf_j1 p
noncomputable def impl_Body_isLive (b : T_impl_Body) (s : Int) : Option Bool :=
  (impl_set_has s b.Ins).bind fun x8 => (if x8 then (impl_setOf b.Dels).bind fun x12 => some ((bits .and .u64 x12 s) == 0) else some false).bind fun b_1 => some b_1
noncomputable def impl_Weave_liveIn_j1 (out_ : List Int) : Option ((List Int)) :=
  some out_
noncomputable def impl_Weave_liveIn_l1 (w : T_impl_Weave) (s : Int) (x13 : Int) (out__1 : List Int) : Option ((Int × (List Int)) ⊕ ((List Int))) :=
  (if (decide (x13 < (w.Bodies.length : Int))) then (geti w.Bodies x13).bind fun x => (impl_Body_isLive (T_impl_Body.mk x.Line x.Ins x.Ord x.Dels) s).bind fun x20 => (if x20 then (appn out__1 [x13]).bind fun l => some (.inl ((wk .i64 (x13 + 1)), l))
  else some (.inl ((wk .i64 (x13 + 1)), out__1)))
  else some (.inr out__1))
noncomputable def impl_Weave_liveIn (w : T_impl_Weave) (s : Int) : Option (List Int) :=
  (loopM (fun (s' : Int × (List Int)) => impl_Weave_liveIn_l1 w s s'.1 s'.2) (0, [])).bind fun p => impl_Weave_liveIn_j1 p
noncomputable def impl_bodiesOk_j2 : Option (Bool) :=
  some true
noncomputable def impl_bodiesOk_l1 (w : T_impl_Weave) (closed : List Int) (born : List Int) (x80 : Int) : Option ((Int) ⊕ ((Bool) ⊕ (Unit))) :=
  (if (decide (x80 < (closed.length : Int))) then (geti closed x80).bind fun x => (geti born x80).bind fun x_1 => (if (decide (x_1 > 80)) then some true else (impl_Weave_liveIn (T_impl_Weave.mk w.Parents w.Bodies) x).bind fun x92 => some (decide ((x92.length : Int) > 80))).bind fun b => (if b then some (.inr (.inl false))
  else some (.inl (wk .i64 (x80 + 1))))
  else some (.inr (.inr ())))
noncomputable def impl_bodiesOk_j1 (w : T_impl_Weave) (closed : List Int) (born : List Int) : Option (Bool) :=
  (loopM (fun (s' : Int) => impl_bodiesOk_l1 w closed born s') (0)).bind fun p => (match p with | .inl c' => some c' | .inr q => impl_bodiesOk_j2)
noncomputable def impl_bodiesOk_j3 (x18 : Int) (born_2 : List Int) : Option ((Int × (List Int)) ⊕ ((Bool) ⊕ ((List Int)))) :=
  some (.inl ((wk .i64 (x18 + 1)), born_2))
noncomputable def impl_bodiesOk_l3 (w : T_impl_Weave) (closed : List Int) (x_2 : T_impl_Body) (x62 : Int) : Option ((Int) ⊕ (((Int × (List Int)) ⊕ ((Bool) ⊕ ((List Int)))) ⊕ (Unit))) :=
  (if (decide (x62 < (x_2.Dels.length : Int))) then (geti x_2.Dels x62).bind fun x_5 => (geti w.Parents x_5).bind fun x_6 => (impl_unionOf closed x_6).bind fun x73 => (impl_Body_isLive (T_impl_Body.mk x_2.Line x_2.Ins x_2.Ord x_2.Dels) x73).bind fun x74 => (if (!x74) then some (.inr (.inl (.inr (.inl false))))
  else some (.inl (wk .i64 (x62 + 1))))
  else some (.inr (.inr ())))
noncomputable def impl_bodiesOk_l2 (w : T_impl_Weave) (closed : List Int) (x18 : Int) (born_1 : List Int) : Option ((Int × (List Int)) ⊕ ((Bool) ⊕ ((List Int)))) :=
  (if (decide (x18 < (w.Bodies.length : Int))) then (geti w.Bodies x18).bind fun x_2 => (impl_LineOk x_2.Line).bind fun x24 => (if (!x24) then some true else (impl_isPlace x_2.Ins (closed.length : Int)).bind fun x31 => some (!x31)).bind fun b_1 => (if b_1 then some true else (geti born_1 x_2.Ins).bind fun x_3 => some (x_2.Ord != x_3)).bind fun b_2 => (if b_2 then some true else (impl_ascends x_2.Dels (closed.length : Int)).bind fun x49 => some (!x49)).bind fun b_3 => (if b_3 then some (.inr (.inl false))
  else (geti born_1 x_2.Ins).bind fun x_4 => (loopM (fun (s' : Int) => impl_bodiesOk_l3 w closed x_2 s') (0)).bind fun p_2 => (match p_2 with | .inl c' => some c' | .inr q_1 => impl_bodiesOk_j3 x18 (born_1.set x_2.Ins.toNat (wk .i64 (x_4 + 1)))))
  else some (.inr (.inr born_1)))
noncomputable def impl_bodiesOk (w : T_impl_Weave) (closed : List Int) : Option Bool :=
  ((mkl (closed.length : Int) (closed.length : Int) 0 : Option (List Int))).bind fun x14 => (loopM (fun (s' : Int × (List Int)) => impl_bodiesOk_l2 w closed s'.1 s'.2) (0, x14)).bind fun p_1 => (match p_1 with | .inl c' => some c' | .inr q_2 => impl_bodiesOk_j1 w closed q_2)
noncomputable def impl_WeaveOk (w : T_impl_Weave) : Option Bool :=
  (if (decide ((w.Bodies.length : Int) ≤ 300)) then (impl_GraphOk w.Parents).bind fun x10 => some x10 else some false).bind fun b => (if b then (impl_closures w.Parents).bind fun x16 => (impl_bodiesOk (T_impl_Weave.mk w.Parents w.Bodies) x16).bind fun x17 => some x17 else some false).bind fun b_1 => some b_1
noncomputable def impl_Weave_areVersions_j1 : Option (Bool) :=
  some true
noncomputable def impl_Weave_areVersions_l1 (w : T_impl_Weave) (list_ : List Int) (x9 : Int) : Option ((Int) ⊕ ((Bool) ⊕ (Unit))) :=
  (if (decide (x9 < (list_.length : Int))) then (geti list_ x9).bind fun x => (impl_isPlace x (w.Parents.length : Int)).bind fun x19 => (if (!x19) then some (.inr (.inl false))
  else some (.inl (wk .i64 (x9 + 1))))
  else some (.inr (.inr ())))
noncomputable def impl_Weave_areVersions (w : T_impl_Weave) (list_ : List Int) : Option Bool :=
  (loopM (fun (s' : Int) => impl_Weave_areVersions_l1 w list_ s') (0)).bind fun p => (match p with | .inl c' => some c' | .inr q => impl_Weave_areVersions_j1)
noncomputable def impl_versionsCode (w : T_impl_Weave) (list_ : List Int) : Option Int :=
  (impl_WeaveOk (T_impl_Weave.mk w.Parents w.Bodies)).bind fun x7 => (if (!x7) then some 1
  else (impl_Weave_areVersions (T_impl_Weave.mk w.Parents w.Bodies) list_).bind fun x11 => (if (!x11) then some 2
  else some 0))
noncomputable def slices_Index_int_int_j1 : Option (Int) :=
  some (-1)
noncomputable def slices_Index_int_int_l1 (s : List Int) (v : Int) (x8 : Int) : Option ((Int) ⊕ ((Int) ⊕ (Unit))) :=
  (if (decide (x8 < (s.length : Int))) then (geti s x8).bind fun x => (if (v == x) then some (.inr (.inl x8))
  else some (.inl (wk .i64 (x8 + 1))))
  else some (.inr (.inr ())))
noncomputable def slices_Index_int_int (s : List Int) (v : Int) : Option Int :=
  (loopM (fun (s' : Int) => slices_Index_int_int_l1 s v s') (0)).bind fun p => (match p with | .inl c' => some c' | .inr q => slices_Index_int_int_j1)
noncomputable def slices_Contains_int_int (s : List Int) (v : Int) : Option Bool :=
  (slices_Index_int_int s v).bind fun x7 => some (decide (x7 ≥ 0))
noncomputable def impl_Body_hasDel (b : T_impl_Body) (v : Int) : Option Bool :=
  (slices_Contains_int_int b.Dels v).bind fun x8 => some x8
noncomputable def impl_PickOn_c1 (b : T_impl_Body) (c : Int) (c_1 : Int) : Option Bool :=
  (impl_Body_isLive (T_impl_Body.mk b.Line b.Ins b.Ord b.Dels) c).bind fun x7 => (if x7 then (impl_Body_hasDel (T_impl_Body.mk b.Line b.Ins b.Ord b.Dels) c_1).bind fun x11 => some (!x11) else some false).bind fun b_1 => (if b_1 then some true else some (b.Ins == c_1)).bind fun b_2 => some b_2
noncomputable def impl_PickOn_c2 (b : T_impl_Body) (c : Int) (c_1 : Int) : Option Bool :=
  (impl_Body_hasDel (T_impl_Body.mk b.Line b.Ins b.Ord b.Dels) c).bind fun x7 => (if x7 then (impl_Body_isLive (T_impl_Body.mk b.Line b.Ins b.Ord b.Dels) c_1).bind fun x11 => some (!x11) else some false).bind fun b_1 => some b_1
noncomputable def impl_pickBy_j1 (n : Int) (out_ : List ByteArray) : Option ((List ByteArray) × Int) :=
  some (out_, n)
noncomputable def impl_pickBy_j2 (miss : T_impl_Body → Option Bool) (n_1 : Int) (x15 : Int) (x : T_impl_Body) (out__2 : List ByteArray) : Option ((Int × Int × (List ByteArray)) ⊕ (Int × (List ByteArray))) :=
  (miss (T_impl_Body.mk x.Line x.Ins x.Ord x.Dels)).bind fun x29 => (if x29 then some (.inl ((wk .i64 (n_1 + 1)), (wk .i64 (x15 + 1)), out__2))
  else some (.inl (n_1, (wk .i64 (x15 + 1)), out__2)))
noncomputable def impl_pickBy_l1 (w : T_impl_Weave) (take : T_impl_Body → Option Bool) (miss : T_impl_Body → Option Bool) (n_1 : Int) (x15 : Int) (out__1 : List ByteArray) : Option ((Int × Int × (List ByteArray)) ⊕ (Int × (List ByteArray))) :=
  (if (decide (x15 < (w.Bodies.length : Int))) then (geti w.Bodies x15).bind fun x => (take (T_impl_Body.mk x.Line x.Ins x.Ord x.Dels)).bind fun x21 => (if x21 then (appn out__1 [x.Line]).bind fun l => impl_pickBy_j2 miss n_1 x15 x l
  else impl_pickBy_j2 miss n_1 x15 x out__1)
  else some (.inr (n_1, out__1)))
noncomputable def impl_pickBy (w : T_impl_Weave) (take : T_impl_Body → Option Bool) (miss : T_impl_Body → Option Bool) : Option ((List ByteArray) × Int) :=
  (loopM (fun (s' : Int × Int × (List ByteArray)) => impl_pickBy_l1 w take miss s'.1 s'.2.1 s'.2.2) (0, 0, [])).bind fun p => impl_pickBy_j1 p.1 p.2
noncomputable def impl_PickOn (w : T_impl_Weave) (onto : Int) (v : Int) : Option ((List ByteArray) × Int × Int) :=
  (impl_versionsCode (T_impl_Weave.mk w.Parents w.Bodies) [onto, v]).bind fun x17 => (if (x17 != 0) then some ([], 0, x17)
  else (impl_closures w.Parents).bind fun x23 => (geti x23 onto).bind fun x => (impl_pickBy (T_impl_Weave.mk w.Parents w.Bodies) (fun z0' => impl_PickOn_c1 z0' x v) (fun z0' => impl_PickOn_c2 z0' v x)).bind fun x31 => some (x31.1, x31.2, 0))
noncomputable def impl_Body_isLiveWithout (b : T_impl_Body) (s : Int) (v : Int) : Option Bool :=
  (impl_set_has s b.Ins).bind fun x10 => (if x10 then (impl_setOf b.Dels).bind fun x14 => (impl_setOf [v]).bind fun x17 => some ((bits .and .u64 (bits .andNot .u64 x14 x17) s) == 0) else some false).bind fun b_1 => some b_1
noncomputable def impl_UndoOn_c1 (b : T_impl_Body) (c : Int) (c_1 : Int) : Option Bool :=
  (impl_Body_isLive (T_impl_Body.mk b.Line b.Ins b.Ord b.Dels) c).bind fun x7 => (if x7 then some (b.Ins != c_1)
  else (impl_Body_isLiveWithout (T_impl_Body.mk b.Line b.Ins b.Ord b.Dels) c c_1).bind fun x15 => some x15)
noncomputable def impl_UndoOn_c2 (b : T_impl_Body) (c : Int) (c_1 : Int) : Option Bool :=
  (if (b.Ins == c) then (impl_Body_isLive (T_impl_Body.mk b.Line b.Ins b.Ord b.Dels) c_1).bind fun x12 => some (!x12) else some false).bind fun b_1 => some b_1
noncomputable def impl_UndoOn (w : T_impl_Weave) (onto : Int) (v : Int) : Option ((List ByteArray) × Int × Int) :=
  (impl_versionsCode (T_impl_Weave.mk w.Parents w.Bodies) [onto, v]).bind fun x17 => (if (x17 != 0) then some ([], 0, x17)
  else (impl_closures w.Parents).bind fun x23 => (geti x23 onto).bind fun x => (impl_pickBy (T_impl_Weave.mk w.Parents w.Bodies) (fun z0' => impl_UndoOn_c1 z0' x v) (fun z0' => impl_UndoOn_c2 z0' v x)).bind fun x31 => some (x31.1, x31.2, 0))
noncomputable def laws_sameTexts_j1 : Option (Bool) :=
  some true
noncomputable def laws_sameTexts_l1 (a : List ByteArray) (b : List ByteArray) (i : Int) : Option ((Int) ⊕ ((Bool) ⊕ (Unit))) :=
  (if (decide (i < (a.length : Int))) then (geti a i).bind fun x => (geti b i).bind fun x_1 => (if (!(x.toList == x_1.toList)) then some (.inr (.inl false))
  else some (.inl (wk .i64 (i + 1))))
  else some (.inr (.inr ())))
noncomputable def laws_sameTexts (a : List ByteArray) (b : List ByteArray) : Option Bool :=
  (if ((a.length : Int) != (b.length : Int)) then some false
  else (loopM (fun (s' : Int) => laws_sameTexts_l1 a b s') (0)).bind fun p => (match p with | .inl c' => some c' | .inr q => laws_sameTexts_j1))
noncomputable def spec_SeenBy_j1 (w : T_impl_Weave) (parents : List Int) (ok : Bool) : Option ((List ByteArray)) :=
  (if (!ok) then some []
  else (spec_l06Seen (T_impl_Weave.mk w.Parents w.Bodies) parents).bind fun x30 => (spec_l06Lines (T_impl_Weave.mk w.Parents w.Bodies) x30).bind fun x31 => some x31)
noncomputable def spec_SeenBy_l1 (w : T_impl_Weave) (parents : List Int) (ok_1 : Bool) (i : Int) : Option ((Bool × Int) ⊕ (Bool)) :=
  (if (decide (i < (parents.length : Int))) then some ok_1 else some false).bind fun b => (if b then (geti parents i).bind fun x => (spec_l06Has (T_impl_Weave.mk w.Parents w.Bodies) x).bind fun x23 => some (.inl (x23, (wk .i64 (i + 1))))
  else some (.inr ok_1))
noncomputable def spec_SeenBy (w : T_impl_Weave) (parents : List Int) : Option (List ByteArray) :=
  (spec_WeaveOk (T_impl_Weave.mk w.Parents w.Bodies)).bind fun x8 => (loopM (fun (s' : Bool × Int) => spec_SeenBy_l1 w parents s'.1 s'.2) (x8, 0)).bind fun p => spec_SeenBy_j1 w parents p
noncomputable def laws_FnPicks_j1 (x22 : T_impl_Weave × Int × Int) : Option (Bool) :=
  some (decide ((x22.1.Parents.length : Int) > 0))
noncomputable def laws_FnPicks_l1 (x22 : T_impl_Weave × Int × Int) (v : Int) : Option ((Int) ⊕ ((Bool) ⊕ (Unit))) :=
  (if (decide (v < (x22.1.Parents.length : Int))) then (spec_Extract (T_impl_Weave.mk x22.1.Parents x22.1.Bodies) v).bind fun x36 => (impl_PickOn (T_impl_Weave.mk x22.1.Parents x22.1.Bodies) v v).bind fun x43 => (impl_UndoOn (T_impl_Weave.mk x22.1.Parents x22.1.Bodies) v v).bind fun x51 => (if (x43.2.2 != 0) then some true else some (x51.2.2 != 0)).bind fun b => (if b then some true else some (x51.2.1 != 0)).bind fun b_1 => (if b_1 then some true else (laws_sameTexts x43.1 x36.1).bind fun x68 => some (!x68)).bind fun b_2 => (if b_2 then some (.inr (.inl false))
  else (geti x22.1.Parents v).bind fun x => (spec_SeenBy (T_impl_Weave.mk x22.1.Parents x22.1.Bodies) x).bind fun x78 => (laws_sameTexts x51.1 x78).bind fun x79 => (if (!x79) then some (.inr (.inl false))
  else (geti x22.1.Parents v).bind fun x_1 => (if ((x_1.length : Int) != 1) then some (.inl (wk .i64 (v + 1)))
  else (geti x_1 0).bind fun x_2 => (impl_PickOn (T_impl_Weave.mk x22.1.Parents x22.1.Bodies) x_2 v).bind fun x98 => (if (x98.2.2 != 0) then some true else some (x98.2.1 != 0)).bind fun b_3 => (if b_3 then some true else (laws_sameTexts x98.1 x36.1).bind fun x111 => some (!x111)).bind fun b_4 => (if b_4 then some (.inr (.inl false))
  else some (.inl (wk .i64 (v + 1)))))))
  else some (.inr (.inr ())))
noncomputable def laws_FnPicks (code : List Int) : Option Bool :=
  (laws_big code).bind fun x19 => (if x19 then some true
  else (spec_DrawPair code).bind fun x22 => (loopM (fun (s' : Int) => laws_FnPicks_l1 x22 s') (0)).bind fun p => (match p with | .inl c' => some c' | .inr q => laws_FnPicks_j1 x22))
noncomputable def impl_Weave_linesAt_j1 (out_ : List ByteArray) : Option ((List ByteArray)) :=
  some out_
noncomputable def impl_Weave_linesAt_l1 (w : T_impl_Weave) (places : List Int) (x10 : Int) (out__1 : List ByteArray) : Option ((Int × (List ByteArray)) ⊕ ((List ByteArray))) :=
  (if (decide (x10 < (places.length : Int))) then (geti places x10).bind fun x => (geti w.Bodies x).bind fun x_1 => (appn out__1 [x_1.Line]).bind fun l => some (.inl ((wk .i64 (x10 + 1)), l))
  else some (.inr out__1))
noncomputable def impl_Weave_linesAt (w : T_impl_Weave) (places : List Int) : Option (List ByteArray) :=
  (loopM (fun (s' : Int × (List ByteArray)) => impl_Weave_linesAt_l1 w places s'.1 s'.2) (0, [])).bind fun p => impl_Weave_linesAt_j1 p
end Go.TV.F
